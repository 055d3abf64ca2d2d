import Derived.Test.YtenbhdilndfaeaaGreatM11
import Derived.Test.YtenbhdilndfaeaaGreatM13
set_option maxRecDepth 100000
set_option maxHeartbeats 0
set_option linter.all false
namespace Go.Proofs.YtenbhdilndfaeaaGreat
open Go.RowKit Go.Proofs.Tryz
variable{G:Prop}{e q:TypeId}{base x:Nat}{o:Option Nat}{a:Act}{Q:Exit->Act->World->Prop}{w':World}{v:Value}{xs:List Value}{M:List Nat}{V:List ByteArray}{A:Option Addr}{ts:List ST}
theorem Gd(h:G:=by
 rw[<-aM]at hd Y hR J |-;clear aM;have aD:Ex B g m R0 229 #[q_ g,i_ left,i_ loops,i_ fn] S_ W W:=⟨hd,Y,hR,D_ [g] W⟩;refine iF (Ex B g m R0 229 #[q_ g,i_ left,i_ loops,i_ fn] S_ W) (λ_ ag=>∃t,Bk ag R0 229 t.g8/\jx (jp (R0+1)) ag t/\SG hI 1 1 t/\iE ag B g/\Gr [g,R0] W ag) (Gr [g,R0]) [SU.val _ (.string v),SU.val _ (q_ m),SU.tree aN (1),SU.trees aN 2 1,SU.stmt aN (1) (1),SU.any _] (SU.any _) [[],[],[1],[2],[0,3],[4]] true [(some 29,0),(some 30,1),(some 31,2),(some 32,3),(some 33,4),(none,5)] k_ k_ (λ_ _ _ _ _ h=>h) k_ rfl rfl k_ aD ⟨?_,?_,?_,?_,?_,?_,trivial⟩ ?_
 .exact I4
 .exact I4
 .refine hH [(some 30,1)] ?_;exact Hp
 .refine hH [(some 31,2)] ?_;exact G4
 .refine hH [(some 29,0),(some 32,3)] ?_;intro vs Q C O K H;obtain⟨o,⟨aI,tb,ar,nb,cw,bv,cK⟩, -⟩:=O;replace o:_=_:=o
  try simp only[b_,o,ar]at H |-
  go_simp;have aG:tb.length=_:=nb
  have be:Sl Q 226 5 (j_ aI) tb.length (tb.flatMap ET.E):=by rw[aG];exact bv
  have hcl:(lw 3 v pf 0 0 (j_ aI) tb.length tb).g8=_:=rfl;simp only[ST.h9,lw,aG]at hcl;refine H.out _ _ C (D_ _ _) ⟨lw 3 v pf 0 0 (j_ aI) tb.length tb,?_,jx.es _ _ _ _ _ be cw (λu hu=>(cK u hu).1),SG.leaf (t:=lw 3 v pf 0 0 (j_ aI) tb.length tb) (by show mE _ 3 v pf 0 0 tb.length _ _;rw[aG];exact .vA _ hv) rfl rfl (λu hu=>(cK u hu).2)⟩
  show Value.agg _=Value.agg (lw 3 v pf 0 0 (j_ aI) tb.length tb).g8
  exact Kw
 .refine jf [(some 33,4)] ?_;exact Hs
 exact IG):G:=h
theorem Kz(h:G:=by
 obtain⟨W,aM⟩:=nm_ w1;rw[<-aM]at hd Y hR J |-;clear aM;have aD:Ex B g m R0 229 #[q_ g,i_ left,i_ loops,i_ fn] S_ W W:=⟨hd,Y,hR,D_ [g] W⟩;refine iF (Ex B g m R0 229 #[q_ g,i_ left,i_ loops,i_ fn] S_ W) (λ_ ag=>∃t,Bk ag R0 229 t.g8/\jx (jp (R0+1)) ag t/\SG hI 1 1 t/\iE ag B g/\Gr [g,R0] W ag) (Gr [g,R0]) [SU.val _ (.string v),SU.val _ (q_ m),SU.tree aN (1),SU.stmt aN (1) (1),SU.any _] (SU.any _) [[],[],[1],[0,2],[3]] true [(some 125,0),(some 126,1),(some 127,2),(some 128,3),(none,4)] k_ k_ (λ_ _ _ _ _ h=>h) k_ rfl rfl k_ aD ⟨?_,?_,?_,?_,?_,trivial⟩ ?_
 .exact I4
 .exact I4
 .refine hH [(some 126,1)] ?_;exact Hu
 .refine hH [(some 125,0),(some 127,2)] ?_;exact Hd
 .refine jf [(some 128,3)] ?_;exact Hs
 exact IG):G:=h
theorem GE(h:G:=by
 intro vs Q C O K H;obtain⟨⟨ta,o,ap,E⟩,⟨tb,ar,X,d⟩, -⟩:=O
 try simp only[b_,o,ar]at H |-
 obtain⟨ad,bz,bG,bL,bT,bU,bV⟩:=ta;obtain⟨d7,d8,d9,ea,eb,ed,ef⟩:=tb;simp only[ET.h9]at H |-;go_simp;refine H.out _ _ (C.g_ ((D_ [] _).alloc _)) ((D_ _ _).alloc _) ⟨_,[ET.mk ad bz bG bL bT bU bV,ET.mk d7 d8 d9 ea eb ed ef],rfl,rfl,C.r.lt,sy (ET.mk ad bz bG bL bT bU bV) (ET.mk d7 d8 d9 ea eb ed ef) (L_ _ _ _),?_⟩;exact Ib):G:=h
theorem G4(h:G:=by
 intro vs Q C O K H;obtain⟨⟨ta,o,ap,E⟩, -⟩:=O
 try simp only[b_,o]at H |-
 obtain⟨ad,bz,bG,bL,bT,bU,bV⟩:=ta;simp only[ET.h9]at H |-;go_simp;refine H.out _ _ (C.g_ ((D_ [] _).alloc _)) ((D_ _ _).alloc _) ⟨_,[ET.mk ad bz bG bL bT bU bV],rfl,rfl,C.r.lt,nf (ET.mk ad bz bG bL bT bU bV) (L_ _ _ _),?_⟩;exact Jl):G:=h
theorem Hd(h:G:=by
 intro vs Q C O K H;obtain⟨o,⟨tb,ar,X,d⟩, -⟩:=O;replace o:_=_:=o
 try simp only[b_,o,ar]at H |-
 go_simp
 go_at_call 142
 refine(kw (R0+1) _ _ _ C.r.lt X).mono ?_;rintro e w1⟨A,rfl,V,hg1⟩;exact H.out _ _ (C.g_ hg1) (hg1.mono s_) ⟨iS _ A _,rfl,V,SG.leaf (.uE _ aB.out) rfl rfl (by intro u hu;rcases M_.1 hu with rfl|hu;exact d.mono o_;cases hu)⟩):G:=h
theorem Hp(h:G:=by
 intro vs Q C O K H;obtain⟨o, -⟩:=O;replace o:_=_:=o
 try simp only[b_,o]at H |-
 go_simp
 go_at_call 140
 refine(kq B g m left loops fn 1 o_ _ rfl _ C.d C.m hBm).mono ?_;exact I0):G:=h
theorem Hu(h:G:=by
 intro vs Q C O K H;obtain⟨o, -⟩:=O;replace o:_=_:=o
 try simp only[b_,o]at H |-
 go_simp
 go_at_call 218
 refine(pb B g m left loops fn _ C.d C.m hBm).mono ?_;exact I0):G:=h
theorem KO(h:G:=by
 refine hH [] ?_;intro vs Q C O K H;clear O
 try simp only[b_]at H |-
 go_simp
 go_at_call 177
 refine(lC _).mono ?_;rintro e w1⟨rfl,rfl⟩;exact JA):G:=h
theorem HU(h:G:=by
 intro vs Q C O K H;obtain⟨⟨a7,E,o,bp,bj,bf⟩, -⟩:=O
 try simp only[b_,o]at H |-
 obtain⟨s,hs,bI⟩:=Ai E o_;exact JW):G:=h
theorem IG(h:G:=by
 intro vs bq C;simp only[b_];obtain⟨t,az,V,aq,aR,G⟩:=C;go_wp2;exact rr_ t.g8 az underlying229 ⟨t,rfl,V.le o_,aq,aR,J.hx G p_⟩):G:=h
section
variable{P:Program}
theorem zj(w:World)(base:Nat)(t ty e:TypeId)(i:TypeInfo)(z:Value)(size bytes:Nat)(X:P.underlying t=some (.slice e))(hi:P.info? e=some i)(hz:i.zero=some z)(C:i.size=size)(y:i.bytes=bytes)(D:z.cells.size=size)(au:0<size)(p:Option Addr)(aI n:Nat)(xs:List Value)(ao:w.ownsRow base e size (.slice p n aI) n xs)(A:Option Addr)(m c:Nat)(news:List Value)(hr:Sl w q size A m news)(h1:∀u∈news,u.oneCell'=true)(f:(n+m)*bytes<=140737488355328)(L:0<bytes)(aL:base<=w.heap.size):
 ∃A' c' w',(Builtin.append_ #[t,t] ty #[.slice p n aI,.slice A m c]).run P w=.ok (.slice A' (n+m) c') w'/\w'.ownsRow base e size (.slice A' (n+m) c') (n+m) (xs++news)/\w.grownBy w' (Value.slice p n aI).ownBlock/\((Value.slice A' (n+m) c').ownBlock=(Value.slice p n aI).ownBlock∨(Value.slice A' (n+m) c').ownBlock=some w.heap.size):=by
 by_cases Y:m=0
 .subst Y;have hn:=En (by simpa using hr.1);subst hn;exact⟨p,aI,w,by simpa using lU w base t ty e i size X hi _ n xs ao A c,by simpa using ao,World.grownBy.refl w _,.inl rfl⟩
 .obtain⟨d,rfl,j⟩:=hr.nA o_
  have l:n+m<=maxLen:=by
   have:n+m<=(n+m)*bytes:=Fq _ L
   simp only[maxLen];omega
  obtain⟨v',w',H,h2,h3,_,ax⟩:=run_append_own_at (P:=P) w base t ty e i z size bytes X hi hz C y D au _ n xs ao d m c news hr.1 j h1 l f aL;have hf:∃A' c',v'=.slice A' (n+m) c':=I7;obtain⟨A',c',rfl⟩:=hf;exact⟨A',c',w',H,h2,h3,ax⟩
theorem oy{w:World}{o:Oper}{K:Act->World->Prop}(s x:Operand)(t:TypeId)(ho:o.op=.call {callee:=.builtin .append,args:=#[s,x],argTypes:=#[t,t]})(base:Nat)(e:TypeId)(i:TypeInfo)(z:Value)(size bytes:Nat)(X:P.underlying t=some (.slice e))(hi:P.info? e=some i)(hz:i.zero=some z)(C:i.size=size)(y:i.bytes=bytes)(D:z.cells.size=size)(au:0<size)(L:0<bytes)(p:Option Addr)(n aI:Nat)(xs:List Value)(hs:a.eval s=.slice p n aI)(ao:w.ownsRow base e size (.slice p n aI) n xs)(A:Option Addr)(m c:Nat)(news:List Value)(I:a.eval x=.slice A m c)(hr:Sl w q size A m news)(h1:∀u∈news,u.oneCell'=true)(f:(n+m)*bytes<=140737488355328)(aL:base<=w.heap.size)(h:∀(A':Option Addr) (c':Nat) (w':World),w'.ownsRow base e size (.slice A' (n+m) c') (n+m) (xs++news)->w.grownBy w' (Value.slice p n aI).ownBlock->((Value.slice A' (n+m) c').ownBlock=(Value.slice p n aI).ownBlock∨(Value.slice A' (n+m) c').ownBlock=some w.heap.size)->K (a.put o.dst (.slice A' (n+m) c')) w'):o.wp P a w K Q:=by
 obtain⟨A',c',w',H,h2,h3,aw⟩:=zj (P:=P) w base t o.type e i z size bytes X hi hz C y D au p aI n xs ao A m c news hr h1 f L aL;exact K2
theorem jU{w:World}{ops:Array Oper}{rest:List Oper}{o:Oper}(ap:o.guard=none)(s x:Operand)(t:TypeId)(ho:o.op=.call {callee:=.builtin .append,args:=#[s,x],argTypes:=#[t,t]})(base:Nat)(e:TypeId)(i:TypeInfo)(z:Value)(size bytes:Nat)(X:P.underlying t=some (.slice e))(hi:P.info? e=some i)(hz:i.zero=some z)(C:i.size=size)(y:i.bytes=bytes)(D:z.cells.size=size)(au:0<size)(L:0<bytes)(p:Option Addr)(n aI:Nat)(xs:List Value)(hs:a.eval s=.slice p n aI)(ao:w.ownsRow base e size (.slice p n aI) n xs)(A:Option Addr)(m c:Nat)(news:List Value)(I:a.eval x=.slice A m c)(hr:Sl w q size A m news)(h1:∀u∈news,u.oneCell'=true)(f:(n+m)*bytes<=140737488355328)(aL:base<=w.heap.size)(h:∀(A':Option Addr) (c':Nat) (w':World),w'.ownsRow base e size (.slice A' (n+m) c') (n+m) (xs++news)->w.grownBy w' (Value.slice p n aI).ownBlock->((Value.slice A' (n+m) c').ownBlock=(Value.slice p n aI).ownBlock∨(Value.slice A' (n+m) c').ownBlock=some w.heap.size)->wpList P ops Q rest (a.put o.dst (.slice A' (n+m) c')) w'):wpList P ops Q (o::rest) a w:=
 wpList_plain ap λ_ H=>oy s x t ho base e i z size bytes X hi hz C y D au L p n aI xs hs ao A m c news I hr h1 f aL λA' c' w' h2 h3 aw=>H _ _ (h A' c' w' h2 h3 aw)
end
def yf(base:Nat)(o:Option Nat)(x:Nat):Prop:=base<=x/\o≠some x
def ot(o:Option Nat):List Nat:=match o with|some b=>[b]|none=>[]
theorem jw:x∈ot o↔o=some x:=by
 cases o with
 |none=>simp[ot]
 |some b=>simp[ot,eq_comm]
theorem Gr.iM{w:World}(h:w.grownBy w' o):Gr (ot o) w w':=
 ⟨h.os,h.tape,h.output,h.size,λk hk hn=>h.block k hk (λhe=>hn (jw.2 he.symm))⟩
theorem nL{w:World}{size n:Nat}(h:w.ownsRow base e size v n xs)(hg:Gr M w w')(z:∀x∈M,v.ownBlock≠some x):w'.ownsRow base e size v n xs:=by
 refine⟨h.1,?_⟩
 rcases h.2 with h0|⟨g,kX,cur,rfl,h2,h3,aw⟩
 .exact .inl h0
 .refine .inr ⟨g,kX,cur,rfl,h2,?_,aw⟩;rw[hg.block g (mf h3) (λY=>z g Y rfl)];exact h3
theorem kj{w:World}{size n:Nat}(h:w.ownsRow base e size v n xs)(I:v.ownBlock=some x):base<=x/\x<w.heap.size:=by
 rcases h.2 with⟨rfl,_⟩|⟨g,kX,cur,rfl,h2,h3,_⟩
 .cases I
 .have:g=x:=by simpa[Value.ownBlock]using I
  subst this;exact⟨h2,mf h3⟩
structure lm(V:List ByteArray)(base D N:Nat)(w:World)(A:Option Addr)(c:Nat)(ts:List ST):Prop where
 own:w.ownsRow base 229 8 (.slice A ts.length c) ts.length (ts.flatMap ST.E)
 jd:∀t∈ts,jx (yf base (Value.slice A ts.length c).ownBlock) w t
 sg:lJ V D N ts
theorem lm.ir{D N c:Nat}{w:World}(h:lm V base D N w A c ts)(hg:Gr M w w')(z:∀x∈M,x<base):lm V base D N w' A c ts:=
 ⟨nL h.own hg (λx I he=>by have:=(kj h.own he).1;have:=z x I;omega),λt X=>(h.jd t X).h7 hg (λx I hp=>by have:=z x I;have:=hp.1;omega),h.sg⟩
theorem lm.nil(V:List ByteArray)(base D:Nat)(w:World):lm V base D 0 w none 0 []:=⟨iJ _ _ _ _,(λ_ h=>by cases h),.nil _⟩
theorem lm.le{d D N c:Nat}{w:World}(h:lm V base D N w A c ts)(hb:d<=base):lm V d D N w A c ts:=
 ⟨od h.own hb,λt X=>(h.jd t X).imp λx I=>⟨F_ hb I.1,I.2⟩,h.sg⟩
theorem lm.add{D N K c c':Nat}{w:World}{A':Option Addr}{us:List ST}(h:lm V base D N w A c ts)(ao:w'.ownsRow base 229 8 (.slice A' (ts.length+us.length) c') (ts.length+us.length) (ts.flatMap ST.E++us.flatMap ST.E))(hg:w.grownBy w' (Value.slice A ts.length c).ownBlock)(hb:(Value.slice A' (ts.length+us.length) c').ownBlock=(Value.slice A ts.length c).ownBlock∨(Value.slice A' (ts.length+us.length) c').ownBlock=some w.heap.size)(hu:∀u∈us,jx (yf base (Value.slice A ts.length c).ownBlock) w u)(bS:lJ V D K us):lm V base D (N+K) w' A' c' (ts++us):=by
 refine⟨?_,?_,h.sg.append bS⟩
 .rw[H_,Ej];exact ao
 .intro t X
  have h1:jx (yf base (Value.slice A ts.length c).ownBlock) w t:=by
   rcases T_.1 X with X|X
   .exact h.jd t X
   .exact hu t X
  have h2:=h1.lt.h7 (Gr.iM hg) (λx I hp=>hp.1.2 (jw.1 I))
  refine h2.imp λx I=>⟨I.1.1,?_⟩
  rw[H_]
  rcases hb with hb|hb
  .rw[hb];exact I.1.2
  .rw[hb];intro he;injection he with he
   have:=I.2
   omega
theorem infoSt:(prog.info? 229).map (λi=>(i.zero,i.size,i.bytes))=some (some (.agg S_),8,128):=by kernel_rfl
theorem infoStr:(prog.info? 9).map (λi=>(i.zero,i.size,i.bytes))=some (some (e_),1,16):=by kernel_rfl
theorem kM(ts:List ST):∀u∈ts.flatMap ST.E,u.oneCell'=true:=by
 intro u hu;obtain⟨t,_,hu⟩:=E2.1 hu;simp[ST.E]at hu
 rcases hu with rfl|rfl|rfl|rfl|rfl|rfl|rfl|rfl<;>rfl
theorem qZ{w:World}(t:ST)(h:Bk w x 229 t.g8):Sl w 229 8 (j_ x) 1 ([t].flatMap ST.E):=i5 (n:=1) h rfl
theorem Ai:∀k,k<2->∃s,s∈hI/\(#[.string {data:=#[112]},.string {data:=#[113]}]:Array Value)[k]?=some (.string s)
 |0,_=>⟨oW,by simp[hI],rfl⟩
 |1,_=>⟨mH,by simp[hI],rfl⟩
theorem pb(B g m:Nat)(left loops fn:Int)(w:World)(hd:iE w B g)(Y:Bk w m 222 #[q_ g,i_ left,i_ loops,i_ fn])(hBm:B<=m):
 Calls prog 218 #[q_ m] w λe w'=>∃t,e=.returned (.agg t.g8)/\kc (jp w.heap.size) w' t/\EG hI 1 t/\iE w' B g/\Gr [g] w w':=by
 have a8:=hd.vl;have cv:=Y.lt
 go_enter func218,ntmps218
 go_upto_region 1 with fail
 have aV:Gr [] w (w.alloc (.cells E_ 226)):=(D_ [] w).alloc _;replace hd:=hd.g_ aV;replace Y:=Y.g_ aV;have hR:=L_ w 226 E_;have J:Gr [g] w (w.alloc (.cells E_ 226)):=(D_ [g] w).alloc _;clear aV;obtain⟨bm,b3⟩:=nm_ (w.alloc (.cells E_ 226));rw[<-b3]at hd Y hR J |-;clear b3;obtain⟨R0,cn⟩:=nm_ w.heap.size;rw[<-cn]at hR |-
 have di:w.heap.size<=R0:=by omega
 have cI:g<R0:=by omega
 have j:B<=R0:=by omega
 have cR:m<R0:=by have:=cv;omega
 clear cn
 have aN:∀y∈[g,R0],y<R0+1:=by simp;omega
 have U:m≠g:=by omega
 have aj:R0≠g:=by omega
 have Z:=Y.f_ 0
 go_upto_region 2 with(go_at_call 19;refine(h8 B g 4 _ hd o_ o_).mono ?_;rintro e w1⟨k,rfl,b8,bW,bt,aO⟩)
 clear Z;replace Y:=Y.gr aO p_;replace hR:=hR.gr aO p_;replace J:=J.trans aO;replace hd:=bt;clear aO
 rcases(by omega:(k=0)∨(k=1)∨(k=2∨k=3))with b8|bW|cj
 .subst b8
  go_upto_region 3 with fail
  obtain⟨W,aM⟩:=nm_ w1;rw[<-aM]at hd Y hR J |-;clear aM;have aD:Ex B g m R0 226 #[q_ g,i_ left,i_ loops,i_ fn] E_ W W:=⟨hd,Y,hR,D_ [g] W⟩;refine iF (Ex B g m R0 226 #[q_ g,i_ left,i_ loops,i_ fn] E_ W) (λ_ ag=>∃t,Bk ag R0 226 t.g8/\kc (jp (R0+1)) ag t/\EG hI (1) t/\iE ag B g/\Gr [g,R0] W ag) (Gr [g,R0]) [SU.val _ (q_ m),SU.tree aN (1),SU.any _] (SU.any _) [[],[0],[1]] true [(some 10,0),(some 11,1),(none,2)] k_ k_ (λ_ _ _ _ _ h=>h) k_ rfl rfl k_ aD ⟨?_,?_,?_,trivial⟩ ?_
  .exact I4
  .refine hH [(some 10,0)] ?_;exact Hp
  .refine jf [(some 11,1)] ?_;exact Hr
  exact IF
 .subst bW
  go_upto_region 5 with fail
  obtain⟨W,aM⟩:=nm_ w1;rw[<-aM]at hd Y hR J |-;clear aM;have aD:Ex B g m R0 226 #[q_ g,i_ left,i_ loops,i_ fn] E_ W W:=⟨hd,Y,hR,D_ [g] W⟩;refine iF (Ex B g m R0 226 #[q_ g,i_ left,i_ loops,i_ fn] E_ W) (λ_ ag=>∃t,Bk ag R0 226 t.g8/\kc (jp (R0+1)) ag t/\EG hI (1) t/\iE ag B g/\Gr [g,R0] W ag) (Gr [g,R0]) [SU.val _ (q_ m),SU.val _ (q_ m),SU.val _ (q_ m),SU.val _ (q_ g),SU.num _ 0 2,SU.pure _ (λv=>v=.agg (jl oW).g8),SU.yC aN 226 (jl oW).g8 1,SU.tree aN (0+1),SU.any _] (SU.any _) [[],[0],[1],[2],[3],[],[5],[4,6],[7]] true [(some 14,0),(some 15,1),(some 16,2),(some 17,3),(some 18,4),(some 19,5),(some 20,6),(some 21,7),(none,8)] k_ k_ (λ_ _ _ _ _ h=>h) k_ rfl rfl k_ aD ⟨?_,?_,?_,?_,?_,?_,?_,?_,?_,trivial⟩ ?_
  .exact I4
  .refine hH [(some 14,0)] ?_;exact IP
  .refine hH [(some 15,1)] ?_;exact IP
  .refine hH [(some 16,2)] ?_;exact HM
  .refine hH [(some 17,3)] ?_;exact Hz
  .refine hH [] ?_;intro vs Q C O K H;clear O
   try simp only[b_]at H |-
   go_simp
   go_at_call 145
   refine(j2 oW _).mono ?_;exact Kb
  .refine hH [(some 19,5)] ?_;intro vs Q C O K H;obtain⟨o, -⟩:=O;have o:vs 5=.agg (jl oW).g8:=o
   try simp only[b_,o]at H |-
   simp only[jl,ET.h9]at H |-;exact Jn
  .refine hH [(some 18,4),(some 20,6)] ?_;intro vs Q C O K H;obtain⟨⟨aJ,o,cD,bp⟩,⟨aI,ar,cw,bv⟩, -⟩:=O
   try simp only[b_,o,ar]at H |-
   go_simp;exact H.out (.agg (pp aJ (j_ aI) (jl oW)).g8) _ C (D_ _ _) ⟨pp aJ (j_ aI) (jl oW),rfl,.mk _ (i5 (n:=1) bv rfl) (G_ _) (λx off h _=>by injection h with h;injection h with h;omega) (by intro u hu;rcases M_.1 hu with rfl|hu;exact kc.leaf _ _ _ _ _ _;cases hu),EG.field _ _ _ _ o_ o_ (by simp[hI])⟩
  .refine jf [(some 21,7)] ?_;exact Hr
  exact IF
 .rcases cj with rfl|rfl
  all_goals
   go_upto_region 6 with fail
   obtain⟨W,aM⟩:=nm_ w1;rw[<-aM]at hd Y hR J |-;clear aM;have aD:Ex B g m R0 226 #[q_ g,i_ left,i_ loops,i_ fn] E_ W W:=⟨hd,Y,hR,D_ [g] W⟩;refine iF (Ex B g m R0 226 #[q_ g,i_ left,i_ loops,i_ fn] E_ W) (λ_ ag=>∃t,Bk ag R0 226 t.g8/\kc (jp (R0+1)) ag t/\EG hI (1) t/\iE ag B g/\Gr [g,R0] W ag) (Gr [g,R0]) [SU.yC aN 9 #[.string {data:=#[112]},.string {data:=#[113]}] 2,SU.val _ (q_ m),SU.val _ (q_ m),SU.val _ (q_ m),SU.val _ (q_ g),SU.num _ 0 2,SU.elem aN 9 #[.string {data:=#[112]},.string {data:=#[113]}] 2,SU.pure _ (λv=>∃s,s∈hI/\v=.string s),SU.tree aN (0),SU.any _] (SU.any _) [[],[],[1],[2],[3],[4],[0,5],[6],[7],[8]] true [(some 22,0),(some 23,1),(some 24,2),(some 25,3),(some 26,4),(some 27,5),(some 28,6),(some 29,7),(some 30,8),(none,9)] k_ k_ (λ_ _ _ _ _ h=>h) k_ rfl rfl k_ aD ⟨?_,?_,?_,?_,?_,?_,?_,?_,?_,?_,trivial⟩ ?_
   .exact Ih
   .exact I4
   .refine hH [(some 23,1)] ?_;exact IP
   .refine hH [(some 24,2)] ?_;exact IP
   .refine hH [(some 25,3)] ?_;exact HM
   .refine hH [(some 26,4)] ?_;exact Hz
   .refine hH [(some 22,0),(some 27,5)] ?_;exact HJ
   .refine hH [(some 28,6)] ?_;exact HU
   .refine hH [(some 29,7)] ?_;intro vs Q C O K H;obtain⟨⟨bw,bS,o⟩, -⟩:=O
    try simp only[b_,o]at H |-
    go_simp
    go_at_call 145
    refine(j2 _ _).mono ?_;rintro e w1⟨rfl,hg1⟩;exact H.out _ _ (C.g_ hg1) (hg1.mono s_) ⟨jl bw,rfl,kc.leaf _ _ _ _ _ _,.var _ _ bS⟩
   .refine jf [(some 30,8)] ?_;intro vs Q C O K H;obtain⟨⟨ta,o,ap,E⟩, -⟩:=O
    try simp only[b_,o]at H |-
    refine iL k_ ?_;refine h4 226 _ _ rfl R0 r_ ta.g8 r_ 226 _ C.r rfl k_ (ET.one _) ?_;intro ag az G;exact H.out undef _ (λ_=>⟨ta,az,ap.h7 G s_,E.mono o_,C.d.h7 G p_,(C.g.mono s_).trans (G.mono s_)⟩)
   intro vs bq C;simp only[b_];obtain⟨t,az,V,aq,aR,G⟩:=C;go_wp2;exact rr_ t.g8 az underlying226 ⟨t,rfl,V.le o_,aq,aR,J.hx G p_⟩
theorem Ab(B g m:Nat)(left loops fn:Int)(v:ByteArray)(hv:v∈hI)(w:World)(hd:iE w B g)(Y:Bk w m 222 #[q_ g,i_ left,i_ loops,i_ fn])(hBm:B<=m):
 Calls prog 219 #[q_ m,.string v] w λe w'=>∃t,e=.returned (.agg t.g8)/\jx (jp w.heap.size) w' t/\SG hI 1 1 t/\iE w' B g/\Gr [g] w w':=by
 have aB:=h_ hv;have a8:=hd.vl;have cv:=Y.lt
 go_enter func219,ntmps219
 go_upto_region 1 with fail
 have aV:Gr [] w (w.alloc (.cells S_ 229)):=(D_ [] w).alloc _;replace hd:=hd.g_ aV;replace Y:=Y.g_ aV;have hR:=L_ w 229 S_;have J:Gr [g] w (w.alloc (.cells S_ 229)):=(D_ [g] w).alloc _;clear aV;obtain⟨bm,b3⟩:=nm_ (w.alloc (.cells S_ 229));rw[<-b3]at hd Y hR J |-;clear b3;obtain⟨R0,cn⟩:=nm_ w.heap.size;rw[<-cn]at hR |-
 have di:w.heap.size<=R0:=by omega
 have cI:g<R0:=by omega
 have j:B<=R0:=by omega
 have cR:m<R0:=by have:=cv;omega
 clear cn
 have aN:∀y∈[g,R0],y<R0+1:=by simp;omega
 have U:m≠g:=by omega
 have aj:R0≠g:=by omega
 have Z:=Y.f_ 0;have aQ:=Y.f_ 3
 by_cases hf:fn=0
 .have D:(fn==0)=true:=by simp[hf]
  clear hf
  go_wp2_with fail
  go_at_call 19
  refine(h8 B g 2 _ hd o_ o_).mono ?_;rintro e w1⟨k,rfl,b8,bW,bt,aO⟩;replace Y:=Y.gr aO p_;replace hR:=hR.gr aO p_;replace J:=J.trans aO;replace hd:=bt;clear aO;clear Z aQ
  by_cases hk:k=0
  .subst hk
   go_upto_region 2 with fail
   obtain⟨W,aM⟩:=nm_ w1;rw[<-aM]at hd Y hR J |-;clear aM;have aD:Ex B g m R0 229 #[q_ g,i_ left,i_ loops,i_ fn] S_ W W.drew:=⟨hd.g_ (D_ [] W).drew,Y.g_ (D_ [] W).drew,hR.g_ (D_ [] W).drew,(D_ [g] W).drew⟩;refine j8 (Ex B g m R0 229 #[q_ g,i_ left,i_ loops,i_ fn] S_ W) (λ_ ag=>∃t,Bk ag R0 229 t.g8/\jx (jp (R0+1)) ag t/\SG hI 1 1 t/\iE ag B g/\Gr [g,R0] W ag) (Gr [g,R0]) [SU.val _ (.string v),SU.val _ (q_ m),SU.tree aN (1),SU.val _ (q_ m),SU.val _ (q_ m),SU.val _ (q_ m),SU.val _ (q_ g),SU.num _ 0 4,SU.tree aN (0),SU.trees aN 2 2,SU.stmt aN (1) (1),SU.any _] (SU.any _) [[],[],[1],[],[3],[4],[5],[6],[7],[2,8],[0,9],[10]] true [(some 18,0),(some 19,1),(some 20,2),(some 21,3),(some 22,4),(some 23,5),(some 24,6),(some 25,7),(some 26,8),(some 27,9),(some 28,10),(none,11)] k_ k_ k_ (λ_ _ _ _ _ h=>h) k_ rfl rfl k_ aD ⟨?_,?_,?_,?_,?_,?_,?_,?_,?_,?_,?_,?_,trivial⟩ ?_
   .exact I4
   .exact I4
   .refine hH [(some 19,1)] ?_;exact Hp
   .exact I4
   .refine hH [(some 21,3)] ?_;exact IP
   .refine hH [(some 22,4)] ?_;exact IP
   .refine hH [(some 23,5)] ?_;exact HM
   .refine hH [(some 24,6)] ?_;exact Hz
   .refine hH [(some 25,7)] ?_;intro vs Q C O K H;exact HI
   .refine hH [(some 20,2),(some 26,8)] ?_;exact GE
   .refine hH [(some 18,0),(some 27,9)] ?_;intro vs Q C O K H;obtain⟨o,⟨aI,tb,ar,nb,cw,bv,cK⟩, -⟩:=O;replace o:_=_:=o
    try simp only[b_,o,ar]at H |-
    go_simp;have aG:tb.length=_:=nb
    have be:Sl Q 226 5 (j_ aI) tb.length (tb.flatMap ET.E):=by rw[aG];exact bv
    have hcl:(lw 3 v pJ 0 0 (j_ aI) tb.length tb).g8=_:=rfl;simp only[ST.h9,lw,aG]at hcl;refine H.out _ _ C (D_ _ _) ⟨lw 3 v pJ 0 0 (j_ aI) tb.length tb,?_,jx.es _ _ _ _ _ be cw (λu hu=>(cK u hu).1),SG.leaf (t:=lw 3 v pJ 0 0 (j_ aI) tb.length tb) (by show mE _ 3 v pJ 0 0 tb.length _ _;rw[aG];exact .vB _ hv) rfl rfl (λu hu=>(cK u hu).2)⟩
    show Value.agg _=Value.agg (lw 3 v pJ 0 0 (j_ aI) tb.length tb).g8
    exact Kw
   .refine jf [(some 28,10)] ?_;exact Hs
   exact IG
  .have bj:(k==0)=false:=by simp[hk]
   go_upto_region 3 with fail
   obtain⟨W,aM⟩:=nm_ w1;exact Gd
 .have D:(fn==0)=false:=by simp[hf]
  go_upto_region 3 with fail
  clear Z aQ;obtain⟨W,aM⟩:=nm_ bm;exact Gd
theorem Ah:∀k,k<5->∃s,s∈hI/\lO[k]?=some (.string s)
 |0,_=>⟨vh,by simp[hI],rfl⟩
 |1,_=>⟨ur,by simp[hI],rfl⟩
 |2,_=>⟨uJ,by simp[hI],rfl⟩
 |3,_=>⟨oW,by simp[hI],rfl⟩
 |4,_=>⟨mH,by simp[hI],rfl⟩
theorem Cb:∀k,k<2->∃s,s∈hI/\(#[.string {data:=#[115]},.string {data:=#[97]}]:Array Value)[k]?=some (.string s)
 |0,_=>⟨uJ,by simp[hI],rfl⟩
 |1,_=>⟨vh,by simp[hI],rfl⟩
theorem Cc:∀k,k<4->∃r:Int,(r=1∨r=6∨r=9)/\(#[i_ 1,i_ 6,i_ 9,i_ 1]:Array Value)[k]?=some (i_ r)
 |0,_=>⟨1,by simp,rfl⟩
 |1,_=>⟨6,by simp,rfl⟩
 |2,_=>⟨9,by simp,rfl⟩
 |3,_=>⟨1,by simp,rfl⟩
theorem Ca:∀k,k<2->∃r:Int,(r=7∨r=8)/\(#[i_ 8,i_ 7]:Array Value)[k]?=some (i_ r)
 |0,_=>⟨8,by simp,rfl⟩
 |1,_=>⟨7,by simp,rfl⟩
theorem pU(B g m:Nat)(left loops fn:Int)(w:World)(hd:iE w B g)(Y:Bk w m 222 #[q_ g,i_ left,i_ loops,i_ fn])(hBm:B<=m):
 Calls prog 207 #[q_ m] w λe w'=>∃t,e=.returned (.agg t.g8)/\jx (jp w.heap.size) w' t/\SG hI 1 1 t/\iE w' B g/\Gr [g] w w':=by
 have a8:=hd.vl;have cv:=Y.lt
 go_enter func207,ntmps207
 go_upto_region 1 with fail
 have aV:Gr [] w (w.alloc (.cells S_ 229)):=(D_ [] w).alloc _;replace hd:=hd.g_ aV;replace Y:=Y.g_ aV;have hR:=L_ w 229 S_;have J:Gr [g] w (w.alloc (.cells S_ 229)):=(D_ [g] w).alloc _;clear aV;obtain⟨bm,b3⟩:=nm_ (w.alloc (.cells S_ 229));rw[<-b3]at hd Y hR J |-;clear b3;obtain⟨R0,cn⟩:=nm_ w.heap.size;rw[<-cn]at hR |-
 have di:w.heap.size<=R0:=by omega
 have cI:g<R0:=by omega
 have j:B<=R0:=by omega
 have cR:m<R0:=by have:=cv;omega
 clear cn
 have aN:∀y∈[g,R0],y<R0+1:=by simp;omega
 have U:m≠g:=by omega
 have aj:R0≠g:=by omega
 obtain⟨W,aM⟩:=nm_ bm;rw[<-aM]at hd Y hR J |-;clear aM;have aD:Ex B g m R0 229 #[q_ g,i_ left,i_ loops,i_ fn] S_ W W.drew:=⟨hd.g_ (D_ [] W).drew,Y.g_ (D_ [] W).drew,hR.g_ (D_ [] W).drew,(D_ [g] W).drew⟩;refine j8 (Ex B g m R0 229 #[q_ g,i_ left,i_ loops,i_ fn] S_ W) (λ_ _=>True) (Gr [g,R0]) [SU.yC aN 9 lO 5,SU.val _ (q_ m),SU.val _ (q_ m),SU.val _ (q_ m),SU.val _ (q_ g),SU.yC aN 9 lO 5,SU.val _ (i_ 5),SU.num _ 0 5,SU.elem aN 9 lO 5,SU.pure _ (λv=>∃s,s∈hI/\v=.string s),SU.pure _ (λv=>∃s,s∈hI/\v=.string s)] (SU.any _) [[],[],[1],[2],[3],[],[5],[4,6],[0,7],[8],[9]] false [(some 4,0),(some 5,1),(some 6,2),(some 7,3),(some 8,4),(some 9,5),(some 10,6),(some 11,7),(some 12,8),(some 13,9),(some 3,10)] k_ k_ k_ (λ_ _ _ _ _ h=>h) k_ rfl rfl k_ aD ⟨?_,?_,?_,?_,?_,?_,?_,?_,?_,?_,?_,trivial⟩ ?_
 .exact KO
 .exact I4
 .refine hH [(some 5,1)] ?_;exact IP
 .refine hH [(some 6,2)] ?_;exact IP
 .refine hH [(some 7,3)] ?_;exact HM
 .exact KO
 .refine hH [(some 9,5)] ?_;intro vs Q C O K H;obtain⟨⟨a7,o,bj,bf⟩, -⟩:=O
  try simp only[b_,o]at H |-
  exact Kn
 .refine hH [(some 8,4),(some 10,6)] ?_;intro vs Q C O K H;obtain⟨o,ar, -⟩:=O;replace o:_=_:=o;replace ar:_=_:=ar
  try simp only[b_,o,ar]at H |-
  exact Ii
 .refine hH [(some 4,0),(some 11,7)] ?_;exact HJ
 .refine hH [(some 12,8)] ?_;intro vs Q C O K H;obtain⟨⟨a7,E,o,bp,bj,bf⟩, -⟩:=O
  try simp only[b_,o]at H |-
  obtain⟨s,hs,bI⟩:=Ah E o_;exact JW
 .refine hH [(some 13,9)] ?_;exact II
 rintro vs bq⟨C,O⟩;obtain⟨⟨aU,e0,F,aS⟩,aP,aL,bN,bY,⟨bQ,a6,dt,et⟩,dn,⟨p,dQ,n,cG⟩,⟨bZ,eD,dR,cF,ak,eg⟩,⟨cz,am,cM⟩,⟨b,f,e10⟩, -⟩:=O;replace aP:vs 1=q_ m:=aP;replace aL:vs 2=q_ m:=aL;replace bN:vs 3=q_ m:=bN;replace bY:vs 4=q_ g:=bY;replace dn:vs 6=i_ 5:=dn;simp only[b_,e0,aP,aL,bN,bY,a6,dn,dQ,dR,cM,e10];clear e0 aP aL bN bY a6 dn dQ dR cM e10;obtain⟨v,hv,cp⟩:∃v,v∈hI/\v=b:=⟨b,f,rfl⟩;rw[<-cp];have aB:=h_ hv;clear cp hv;clear hd Y hR;obtain⟨hd,Y,hR,G⟩:=C;replace J:=J.trans G;clear G;have Z:=Y.f_ 0
 go_upto_region 3 with(go_at_call 19;refine(h8 B g 13 _ hd o_ o_).mono ?_;rintro e w1⟨k,rfl,b8,bW,bt,aO⟩)
 clear Z;replace Y:=Y.gr aO p_;replace hR:=hR.gr aO p_;replace J:=J.trans aO;replace hd:=bt;clear aO
 rcases(by omega:(k=0∨k=1)∨(k=2)∨(k=3∨k=4)∨(k=5∨k=6)∨(k=7)∨(k=8)∨(k=9)∨(k=10)∨(k=11)∨(k=12))with b8|bW|cj|b0|bJ|dN|b5|eT|ei|c7
 .rcases b8 with rfl|rfl
  all_goals
   go_upto_region 5 with fail
   obtain⟨W,aM⟩:=nm_ w1;rw[<-aM]at hd Y hR J |-;clear aM;have aD:Ex B g m R0 229 #[q_ g,i_ left,i_ loops,i_ fn] S_ W W:=⟨hd,Y,hR,D_ [g] W⟩;refine iF (Ex B g m R0 229 #[q_ g,i_ left,i_ loops,i_ fn] S_ W) (λ_ ag=>∃t,Bk ag R0 229 t.g8/\jx (jp (R0+1)) ag t/\SG hI 1 1 t/\iE ag B g/\Gr [g,R0] W ag) (Gr [g,R0]) [SU.val _ (.string v),SU.val _ (q_ m),SU.tree aN (2),SU.stmt aN (1) (1),SU.any _] (SU.any _) [[],[],[1],[0,2],[3]] true [(some 22,0),(some 23,1),(some 24,2),(some 25,3),(none,4)] k_ k_ (λ_ _ _ _ _ h=>h) k_ rfl rfl k_ aD ⟨?_,?_,?_,?_,?_,trivial⟩ ?_
   .exact I4
   .exact I4
   .refine hH [(some 23,1)] ?_;intro vs Q C O K H;obtain⟨o, -⟩:=O;replace o:_=_:=o
    try simp only[b_,o]at H |-
    go_simp
    go_at_call 140
    refine(kq B g m left loops fn 2 o_ _ rfl _ C.d C.m hBm).mono ?_;exact I0
   .refine hH [(some 22,0),(some 24,2)] ?_;exact Hd
   .refine jf [(some 25,3)] ?_;exact Hs
   intro vs bq C;simp only[b_];obtain⟨t,az,V,aq,aR,G⟩:=C;go_wp2;exact rr_ t.g8 az underlying229 ⟨t,rfl,V.le o_,aq,aR,J.hx G p_⟩
 .subst bW
  go_upto_region 7 with fail
  obtain⟨W,aM⟩:=nm_ w1;rw[<-aM]at hd Y hR J |-;clear aM;have aD:Ex B g m R0 229 #[q_ g,i_ left,i_ loops,i_ fn] S_ W W.drew:=⟨hd.g_ (D_ [] W).drew,Y.g_ (D_ [] W).drew,hR.g_ (D_ [] W).drew,(D_ [g] W).drew⟩;refine j8 (Ex B g m R0 229 #[q_ g,i_ left,i_ loops,i_ fn] S_ W) (λ_ ag=>∃t,Bk ag R0 229 t.g8/\jx (jp (R0+1)) ag t/\SG hI 1 1 t/\iE ag B g/\Gr [g,R0] W ag) (Gr [g,R0]) [SU.yC aN 9 #[.string {data:=#[112]},.string {data:=#[113]}] 2,SU.val _ (q_ m),SU.val _ (q_ m),SU.val _ (q_ m),SU.val _ (q_ g),SU.num _ 0 2,SU.elem aN 9 #[.string {data:=#[112]},.string {data:=#[113]}] 2,SU.pure _ (λv=>∃s,s∈hI/\v=.string s),SU.val _ (q_ m),SU.val _ (q_ m),SU.val _ (q_ m),SU.val _ (q_ g),SU.num _ 0 2,SU.pure _ (λv=>∃r:Int,v=i_ r/\2<=r/\r<=3),SU.tree aN (0),SU.stmt aN (1) (1),SU.any _] (SU.any _) [[],[],[1],[2],[3],[4],[0,5],[6],[],[8],[9],[10],[11],[12],[13],[7,14],[15]] true [(some 28,0),(some 29,1),(some 30,2),(some 31,3),(some 32,4),(some 33,5),(some 34,6),(some 35,7),(some 36,8),(some 37,9),(some 38,10),(some 39,11),(some 40,12),(some 41,13),(some 42,14),(some 43,15),(none,16)] k_ k_ k_ (λ_ _ _ _ _ h=>h) k_ rfl rfl k_ aD ⟨?_,?_,?_,?_,?_,?_,?_,?_,?_,?_,?_,?_,?_,?_,?_,?_,?_,trivial⟩ ?_
  .exact Ih
  .exact I4
  .exact KZ
  .exact K1
  .exact KM
  .refine hH [(some 32,4)] ?_;exact Hz
  .exact KL
  .refine hH [(some 34,6)] ?_;exact HU
  .exact I4
  .refine hH [(some 36,8)] ?_;exact IP
  .refine hH [(some 37,9)] ?_;exact IP
  .refine hH [(some 38,10)] ?_;exact HM
  .refine hH [(some 39,11)] ?_;exact Hz
  .refine hH [(some 40,12)] ?_;intro vs Q C O K H;obtain⟨⟨aJ,o,cD,bp⟩, -⟩:=O
   try simp only[b_,o]at H |-
   have bN:IntKind.i64.wrap (2+aJ)=2+aJ:=Eg _ o_;go_simp;exact H.out _ _ C (D_ _ _) ⟨_,rfl,by omega,by omega⟩
  .refine hH [(some 41,13)] ?_;intro vs Q C O K H;obtain⟨⟨aJ,o,cD,bp⟩, -⟩:=O
   try simp only[b_,o]at H |-
   go_simp;exact H.out (.agg (eNew aJ).g8) _ C (D_ _ _) ⟨eNew aJ,rfl,kc.leaf _ _ _ _ _ _,.new _ _ o_ o_⟩
  .refine hH [(some 35,7),(some 42,14)] ?_;intro vs Q C O K H;obtain⟨⟨bw,bS,o⟩,⟨tb,ar,X,d⟩, -⟩:=O
   try simp only[b_,o,ar]at H |-
   go_simp
   go_at_call 142
   refine(kw (R0+1) _ _ _ C.r.lt X).mono ?_;rintro e w1⟨A,rfl,V,hg1⟩;exact H.out _ _ (C.g_ hg1) (hg1.mono s_) ⟨iS _ A _,rfl,V,SG.leaf (.uE _ bS) rfl rfl (by intro u hu;rcases M_.1 hu with rfl|hu;exact d.mono o_;cases hu)⟩
  .refine jf [(some 43,15)] ?_;exact Hs
  exact IG
 .rcases cj with rfl|rfl
  all_goals
   go_upto_region 10 with fail
   obtain⟨W,aM⟩:=nm_ w1;rw[<-aM]at hd Y hR J |-;clear aM;have aD:Ex B g m R0 229 #[q_ g,i_ left,i_ loops,i_ fn] S_ W W:=⟨hd,Y,hR,D_ [g] W⟩;refine iF (Ex B g m R0 229 #[q_ g,i_ left,i_ loops,i_ fn] S_ W) (λ_ ag=>∃t,Bk ag R0 229 t.g8/\jx (jp (R0+1)) ag t/\SG hI 1 1 t/\iE ag B g/\Gr [g,R0] W ag) (Gr [g,R0]) [SU.val _ (q_ m),SU.val _ (q_ m),SU.val _ (q_ m),SU.val _ (q_ g),SU.num _ 0 3,SU.val _ (q_ m),SU.tree aN (1),SU.val _ (q_ m),SU.tree aN (1),SU.trees aN 2 2,SU.stmt aN (1) (1),SU.any _] (SU.any _) [[],[0],[1],[2],[3],[],[5],[],[7],[6,8],[4,9],[10]] true [(some 47,0),(some 48,1),(some 49,2),(some 50,3),(some 51,4),(some 52,5),(some 53,6),(some 54,7),(some 55,8),(some 56,9),(some 57,10),(none,11)] k_ k_ (λ_ _ _ _ _ h=>h) k_ rfl rfl k_ aD ⟨?_,?_,?_,?_,?_,?_,?_,?_,?_,?_,?_,?_,trivial⟩ ?_
   .exact I4
   .refine hH [(some 47,0)] ?_;exact IP
   .refine hH [(some 48,1)] ?_;exact IP
   .refine hH [(some 49,2)] ?_;exact HM
   .refine hH [(some 50,3)] ?_;exact Hz
   .exact I4
   .refine hH [(some 52,5)] ?_;exact Hu
   .exact I4
   .refine hH [(some 54,7)] ?_;exact Hp
   .refine hH [(some 53,6),(some 55,8)] ?_;exact GE
   .refine hH [(some 51,4),(some 56,9)] ?_;intro vs Q C O K H;obtain⟨⟨aJ,o,cD,bp⟩,⟨aI,tb,ar,nb,cw,bv,cK⟩, -⟩:=O
    try simp only[b_,o,ar]at H |-
    go_simp;have aG:tb.length=_:=nb
    have be:Sl Q 226 5 (j_ aI) tb.length (tb.flatMap ET.E):=by rw[aG];exact bv
    have hcl:(lw 2 iU iU aJ 0 (j_ aI) tb.length tb).g8=_:=rfl;simp only[ST.h9,lw,aG]at hcl;refine H.out _ _ C (D_ _ _) ⟨lw 2 iU iU aJ 0 (j_ aI) tb.length tb,?_,jx.es _ _ _ _ _ be cw (λu hu=>(cK u hu).1),SG.leaf (t:=lw 2 iU iU aJ 0 (j_ aI) tb.length tb) (by show mE _ 2 iU iU aJ 0 tb.length _ _;rw[aG];exact .C9 _ o_ o_) rfl rfl (λu hu=>(cK u hu).2)⟩
    show Value.agg _=Value.agg (lw 2 iU iU aJ 0 (j_ aI) tb.length tb).g8
    exact Kw
   .refine jf [(some 57,10)] ?_;exact Hs
   intro vs bq C;simp only[b_];obtain⟨t,az,V,aq,aR,G⟩:=C;go_wp2;exact rr_ t.g8 az underlying229 ⟨t,rfl,V.le o_,aq,aR,J.hx G p_⟩
 .rcases b0 with rfl|rfl
  all_goals
   go_upto_region 13 with fail
   obtain⟨W,aM⟩:=nm_ w1;rw[<-aM]at hd Y hR J |-;clear aM;have aD:Ex B g m R0 229 #[q_ g,i_ left,i_ loops,i_ fn] S_ W W.drew:=⟨hd.g_ (D_ [] W).drew,Y.g_ (D_ [] W).drew,hR.g_ (D_ [] W).drew,(D_ [g] W).drew⟩;refine j8 (Ex B g m R0 229 #[q_ g,i_ left,i_ loops,i_ fn] S_ W) (λ_ ag=>∃t,Bk ag R0 229 t.g8/\jx (jp (R0+1)) ag t/\SG hI 1 1 t/\iE ag B g/\Gr [g,R0] W ag) (Gr [g,R0]) [SU.yC aN 9 #[.string {data:=#[115]},.string {data:=#[97]}] 2,SU.val _ (q_ m),SU.val _ (q_ m),SU.val _ (q_ m),SU.val _ (q_ g),SU.num _ 0 2,SU.elem aN 9 #[.string {data:=#[115]},.string {data:=#[97]}] 2,SU.pure _ (λv=>∃s,s∈hI/\v=.string s),SU.yC aN 3 #[i_ 1,i_ 6,i_ 9,i_ 1] 4,SU.val _ (q_ m),SU.val _ (q_ m),SU.val _ (q_ m),SU.val _ (q_ g),SU.num _ 0 4,SU.elem aN 3 #[i_ 1,i_ 6,i_ 9,i_ 1] 4,SU.pure _ (λv=>∃r:Int,(r=1∨r=6∨r=9)/\v=i_ r),SU.val _ (q_ m),SU.tree aN (1),SU.trees aN 2 1,SU.stmt aN (1) (1),SU.any _] (SU.any _) [[],[],[1],[2],[3],[4],[0,5],[6],[],[],[9],[10],[11],[12],[8,13],[14],[],[16],[17],[7,15,18],[19]] true [(some 61,0),(some 62,1),(some 63,2),(some 64,3),(some 65,4),(some 66,5),(some 67,6),(some 68,7),(some 69,8),(some 70,9),(some 71,10),(some 72,11),(some 73,12),(some 74,13),(some 75,14),(some 76,15),(some 77,16),(some 78,17),(some 79,18),(some 80,19),(none,20)] k_ k_ k_ (λ_ _ _ _ _ h=>h) k_ rfl rfl k_ aD ⟨?_,?_,?_,?_,?_,?_,?_,?_,?_,?_,?_,?_,?_,?_,?_,?_,?_,?_,?_,?_,?_,trivial⟩ ?_
   .exact Ih
   .exact I4
   .refine hH [(some 62,1)] ?_;exact IP
   .refine hH [(some 63,2)] ?_;exact IP
   .refine hH [(some 64,3)] ?_;exact HM
   .refine hH [(some 65,4)] ?_;exact Hz
   .refine hH [(some 61,0),(some 66,5)] ?_;exact HJ
   .refine hH [(some 67,6)] ?_;intro vs Q C O K H;obtain⟨⟨a7,E,o,bp,bj,bf⟩, -⟩:=O
    try simp only[b_,o]at H |-
    obtain⟨s,hs,bI⟩:=Cb E o_;exact JW
   .exact Ih
   .exact I4
   .refine hH [(some 70,9)] ?_;exact IP
   .refine hH [(some 71,10)] ?_;exact IP
   .refine hH [(some 72,11)] ?_;exact HM
   .refine hH [(some 73,12)] ?_;exact Hz
   .refine hH [(some 69,8),(some 74,13)] ?_;exact HJ
   .refine hH [(some 75,14)] ?_;intro vs Q C O K H;obtain⟨⟨a7,E,o,bp,bj,bf⟩, -⟩:=O
    try simp only[b_,o]at H |-
    obtain⟨s,hs,bI⟩:=Cc E o_;exact JW
   .exact I4
   .refine hH [(some 77,16)] ?_;exact Hp
   .refine hH [(some 78,17)] ?_;exact G4
   .refine hH [(some 68,7),(some 76,15),(some 79,18)] ?_;intro vs Q C O K H;obtain⟨⟨bw,bS,o⟩,⟨af,mb,ar⟩,⟨xc,tc,ec,l,lc,i,c⟩, -⟩:=O
    try simp only[b_,o,ar,ec]at H |-
    go_simp;have aG:tc.length=_:=l
    have be:Sl Q 226 5 (j_ xc) tc.length (tc.flatMap ET.E):=by rw[aG];exact i
    have hcl:(lw 12 bw iU 0 af (j_ xc) tc.length tc).g8=_:=rfl;simp only[ST.h9,lw,aG]at hcl;refine H.out _ _ C (D_ _ _) ⟨lw 12 bw iU 0 af (j_ xc) tc.length tc,?_,jx.es _ _ _ _ _ be lc (λu hu=>(c u hu).1),SG.leaf (t:=lw 12 bw iU 0 af (j_ xc) tc.length tc) (by show mE _ 12 bw iU 0 af tc.length _ _;rw[aG];exact .red _ bS _ mb) rfl rfl (λu hu=>(c u hu).2)⟩
    show Value.agg _=Value.agg (lw 12 bw iU 0 af (j_ xc) tc.length tc).g8
    exact Kw
   .refine jf [(some 80,19)] ?_;exact Hs
   intro vs bq C;simp only[b_];obtain⟨t,az,V,aq,aR,G⟩:=C;go_wp2;exact rr_ t.g8 az underlying229 ⟨t,rfl,V.le o_,aq,aR,J.hx G p_⟩
 .subst bJ
  go_upto_region 15 with fail
  obtain⟨W,aM⟩:=nm_ w1;rw[<-aM]at hd Y hR J |-;clear aM;have aD:Ex B g m R0 229 #[q_ g,i_ left,i_ loops,i_ fn] S_ W W:=⟨hd,Y,hR,D_ [g] W⟩;refine iF (Ex B g m R0 229 #[q_ g,i_ left,i_ loops,i_ fn] S_ W) (λ_ ag=>∃t,Bk ag R0 229 t.g8/\jx (jp (R0+1)) ag t/\SG hI 1 1 t/\iE ag B g/\Gr [g,R0] W ag) (Gr [g,R0]) [SU.val _ (q_ m),SU.tree aN (1),SU.trees aN 2 1,SU.stmt aN (1) (1),SU.any _] (SU.any _) [[],[0],[1],[2],[3]] true [(some 83,0),(some 84,1),(some 85,2),(some 86,3),(none,4)] k_ k_ (λ_ _ _ _ _ h=>h) k_ rfl rfl k_ aD ⟨?_,?_,?_,?_,?_,trivial⟩ ?_
  .exact I4
  .refine hH [(some 83,0)] ?_;exact Hp
  .refine hH [(some 84,1)] ?_;exact G4
  .refine hH [(some 85,2)] ?_;intro vs Q C O K H;obtain⟨⟨a7,ta,o,cC,bj,bf,cT⟩, -⟩:=O
   try simp only[b_,o]at H |-
   go_simp;have aG:ta.length=_:=cC
   have be:Sl Q 226 5 (j_ a7) ta.length (ta.flatMap ET.E):=by rw[aG];exact bf
   have hcl:(lw 10 iU iU 0 0 (j_ a7) ta.length ta).g8=_:=rfl;simp only[ST.h9,lw,aG]at hcl;refine H.out _ _ C (D_ _ _) ⟨lw 10 iU iU 0 0 (j_ a7) ta.length ta,?_,jx.es _ _ _ _ _ be bj (λu hu=>(cT u hu).1),SG.leaf (t:=lw 10 iU iU 0 0 (j_ a7) ta.length ta) (by show mE _ 10 iU iU 0 0 ta.length _ _;rw[aG];exact .Dd) rfl rfl (λu hu=>(cT u hu).2)⟩
   show Value.agg _=Value.agg (lw 10 iU iU 0 0 (j_ a7) ta.length ta).g8
   exact Kw
  .refine jf [(some 86,3)] ?_;exact Hs
  exact IG
 .subst dN
  go_upto_region 17 with fail
  obtain⟨W,aM⟩:=nm_ w1;rw[<-aM]at hd Y hR J |-;clear aM;have aD:Ex B g m R0 229 #[q_ g,i_ left,i_ loops,i_ fn] S_ W W:=⟨hd,Y,hR,D_ [g] W⟩;refine iF (Ex B g m R0 229 #[q_ g,i_ left,i_ loops,i_ fn] S_ W) (λ_ ag=>∃t,Bk ag R0 229 t.g8/\jx (jp (R0+1)) ag t/\SG hI 1 1 t/\iE ag B g/\Gr [g,R0] W ag) (Gr [g,R0]) [SU.val _ (.string v),SU.val _ (q_ m),SU.tree aN (1),SU.trees aN 2 1,SU.stmt aN (1) (1),SU.any _] (SU.any _) [[],[],[1],[2],[0,3],[4]] true [(some 89,0),(some 90,1),(some 91,2),(some 92,3),(some 93,4),(none,5)] k_ k_ (λ_ _ _ _ _ h=>h) k_ rfl rfl k_ aD ⟨?_,?_,?_,?_,?_,?_,trivial⟩ ?_
  .exact I4
  .exact I4
  .refine hH [(some 90,1)] ?_;exact Hp
  .refine hH [(some 91,2)] ?_;exact G4
  .refine hH [(some 89,0),(some 92,3)] ?_;intro vs Q C O K H;obtain⟨o,⟨aI,tb,ar,nb,cw,bv,cK⟩, -⟩:=O;replace o:_=_:=o
   try simp only[b_,o,ar]at H |-
   go_simp;have aG:tb.length=_:=nb
   have be:Sl Q 226 5 (j_ aI) tb.length (tb.flatMap ET.E):=by rw[aG];exact bv
   have hcl:(lw 11 v iU 0 0 (j_ aI) tb.length tb).g8=_:=rfl;simp only[ST.h9,lw,aG]at hcl;refine H.out _ _ C (D_ _ _) ⟨lw 11 v iU 0 0 (j_ aI) tb.length tb,?_,jx.es _ _ _ _ _ be cw (λu hu=>(cK u hu).1),SG.leaf (t:=lw 11 v iU 0 0 (j_ aI) tb.length tb) (by show mE _ 11 v iU 0 0 tb.length _ _;rw[aG];exact .ask _ aB.out) rfl rfl (λu hu=>(cK u hu).2)⟩
   show Value.agg _=Value.agg (lw 11 v iU 0 0 (j_ aI) tb.length tb).g8
   exact Kw
  .refine jf [(some 93,4)] ?_;exact Hs
  exact IG
 .subst b5
  go_upto_region 19 with fail
  obtain⟨W,aM⟩:=nm_ w1;rw[<-aM]at hd Y hR J |-;clear aM;have aD:Ex B g m R0 229 #[q_ g,i_ left,i_ loops,i_ fn] S_ W W:=⟨hd,Y,hR,D_ [g] W⟩;refine iF (Ex B g m R0 229 #[q_ g,i_ left,i_ loops,i_ fn] S_ W) (λ_ ag=>∃t,Bk ag R0 229 t.g8/\jx (jp (R0+1)) ag t/\SG hI 1 1 t/\iE ag B g/\Gr [g,R0] W ag) (Gr [g,R0]) [SU.tree aN (0),SU.val _ (q_ m),SU.tree aN (1),SU.tree aN (1+1),SU.stmt aN (1) (1),SU.any _] (SU.any _) [[],[],[1],[0,2],[3],[4]] true [(some 96,0),(some 97,1),(some 98,2),(some 99,3),(some 100,4),(none,5)] k_ k_ (λ_ _ _ _ _ h=>h) k_ rfl rfl k_ aD ⟨?_,?_,?_,?_,?_,?_,trivial⟩ ?_
  .refine hH [] ?_;intro vs Q C O K H;clear O
   try simp only[b_]at H |-
   go_simp
   go_at_call 145
   refine(j2 _ _).mono ?_;rintro e w1⟨rfl,hg1⟩;exact H.out _ _ (C.g_ hg1) (hg1.mono s_) ⟨jl uJ,rfl,kc.leaf _ _ _ _ _ _,.var _ _ (by simp[hI])⟩
  .exact I4
  .refine hH [(some 97,1)] ?_;exact Hp
  .refine hH [(some 96,0),(some 98,2)] ?_;intro vs Q C O K H;obtain⟨⟨ta,o,ap,E⟩,⟨tb,ar,X,d⟩, -⟩:=O
   try simp only[b_,o,ar]at H |-
   go_simp
   go_at_call 143
   refine(ol (R0+1) 1 ta tb _ C.r.lt ap X).mono ?_;rintro e w1⟨A,rfl,V,hg1⟩;exact H.out _ _ (C.g_ hg1) (hg1.mono s_) ⟨pK 1 A ta tb,rfl,V,.bin 1 _ _ _ _ o_ o_ (E.mono o_) (d.mono o_)⟩
  .refine hH [(some 99,3)] ?_;intro vs Q C O K H;obtain⟨⟨ta,o,ap,E⟩, -⟩:=O
   try simp only[b_,o]at H |-
   go_simp
   go_at_call 142
   refine(kw (R0+1) _ _ _ C.r.lt ap).mono ?_;rintro e w1⟨A,rfl,V,hg1⟩;exact H.out _ _ (C.g_ hg1) (hg1.mono s_) ⟨iS _ A _,rfl,V,SG.leaf (.uE _ (show uJ∈hI by simp[hI])) rfl rfl (by intro u hu;rcases M_.1 hu with rfl|hu;exact E.mono o_;cases hu)⟩
  .refine jf [(some 100,4)] ?_;exact Hs
  exact IG
 .subst eT;have aQ:=Y.f_ 3
  by_cases hf:fn<2
  .have D:decide (fn<2)=true:=by simp[hf]
   go_upto_region 22 with fail
   clear aQ;obtain⟨W,aM⟩:=nm_ w1;rw[<-aM]at hd Y hR J |-;clear aM;have aD:Ex B g m R0 229 #[q_ g,i_ left,i_ loops,i_ fn] S_ W W:=⟨hd,Y,hR,D_ [g] W⟩;refine iF (Ex B g m R0 229 #[q_ g,i_ left,i_ loops,i_ fn] S_ W) (λ_ ag=>∃t,Bk ag R0 229 t.g8/\jx (jp (R0+1)) ag t/\SG hI 1 1 t/\iE ag B g/\Gr [g,R0] W ag) (Gr [g,R0]) [SU.val _ (q_ m),SU.val _ (.string v),SU.stmt aN (1) (1),SU.any _] (SU.any _) [[],[],[0,1],[2]] true [(some 108,0),(some 109,1),(some 110,2),(none,3)] k_ k_ (λ_ _ _ _ _ h=>h) k_ rfl rfl k_ aD ⟨?_,?_,?_,?_,trivial⟩ ?_
   .exact I4
   .exact I4
   .refine hH [(some 108,0),(some 109,1)] ?_;intro vs Q C O K H;obtain⟨o,ar, -⟩:=O;replace o:_=_:=o;replace ar:_=_:=ar
    try simp only[b_,o,ar]at H |-
    go_simp
    go_at_call 219
    refine(Ab B g m left loops fn v aB.out _ C.d C.m hBm).mono ?_;exact I0
   .refine jf [(some 110,2)] ?_;exact Hs
   exact IG
  .have D:decide (fn<2)=false:=by simp[hf]
   go_upto_region 25 with fail
   clear aQ;exact Kz
 .subst ei
  go_upto_region 24 with fail
  obtain⟨W,aM⟩:=nm_ w1;rw[<-aM]at hd Y hR J |-;clear aM;have aD:Ex B g m R0 229 #[q_ g,i_ left,i_ loops,i_ fn] S_ W W.drew:=⟨hd.g_ (D_ [] W).drew,Y.g_ (D_ [] W).drew,hR.g_ (D_ [] W).drew,(D_ [g] W).drew⟩;refine j8 (Ex B g m R0 229 #[q_ g,i_ left,i_ loops,i_ fn] S_ W) (λ_ ag=>∃t,Bk ag R0 229 t.g8/\jx (jp (R0+1)) ag t/\SG hI 1 1 t/\iE ag B g/\Gr [g,R0] W ag) (Gr [g,R0]) [SU.yC aN 3 #[i_ 8,i_ 7] 2,SU.val _ (q_ m),SU.val _ (q_ m),SU.val _ (q_ m),SU.val _ (q_ g),SU.num _ 0 2,SU.elem aN 3 #[i_ 8,i_ 7] 2,SU.pure _ (λv=>∃r:Int,(r=7∨r=8)/\v=i_ r),SU.val _ (q_ m),SU.tree aN (1),SU.trees aN 2 1,SU.stmt aN (1) (1),SU.any _] (SU.any _) [[],[],[1],[2],[3],[4],[0,5],[6],[],[8],[9],[7,10],[11]] true [(some 113,0),(some 114,1),(some 115,2),(some 116,3),(some 117,4),(some 118,5),(some 119,6),(some 120,7),(some 121,8),(some 122,9),(some 123,10),(some 124,11),(none,12)] k_ k_ k_ (λ_ _ _ _ _ h=>h) k_ rfl rfl k_ aD ⟨?_,?_,?_,?_,?_,?_,?_,?_,?_,?_,?_,?_,?_,trivial⟩ ?_
  .exact Ih
  .exact I4
  .refine hH [(some 114,1)] ?_;exact IP
  .refine hH [(some 115,2)] ?_;exact IP
  .refine hH [(some 116,3)] ?_;exact HM
  .refine hH [(some 117,4)] ?_;exact Hz
  .refine hH [(some 113,0),(some 118,5)] ?_;exact HJ
  .refine hH [(some 119,6)] ?_;intro vs Q C O K H;obtain⟨⟨a7,E,o,bp,bj,bf⟩, -⟩:=O
   try simp only[b_,o]at H |-
   obtain⟨s,hs,bI⟩:=Ca E o_;exact JW
  .exact I4
  .refine hH [(some 121,8)] ?_;exact Hp
  .refine hH [(some 122,9)] ?_;exact G4
  .refine hH [(some 120,7),(some 123,10)] ?_;intro vs Q C O K H;obtain⟨⟨aJ,bS,o⟩,⟨aI,tb,ar,nb,cw,bv,cK⟩, -⟩:=O
   try simp only[b_,o,ar]at H |-
   go_simp;have aG:tb.length=_:=nb
   have be:Sl Q 226 5 (j_ aI) tb.length (tb.flatMap ET.E):=by rw[aG];exact bv
   have hcl:(lw aJ iU iU 0 0 (j_ aI) tb.length tb).g8=_:=rfl;simp only[ST.h9,lw,aG]at hcl;refine H.out _ _ C (D_ _ _) ⟨lw aJ iU iU 0 0 (j_ aI) tb.length tb,?_,jx.es _ _ _ _ _ be cw (λu hu=>(cK u hu).1),SG.leaf (t:=lw aJ iU iU 0 0 (j_ aI) tb.length tb) (by show mE _ aJ iU iU 0 0 tb.length _ _;rw[aG];exact(by rcases bS with rfl|rfl;exact .ret;exact .C7)) rfl rfl (λu hu=>(cK u hu).2)⟩
   show Value.agg _=Value.agg (lw aJ iU iU 0 0 (j_ aI) tb.length tb).g8
   exact Kw
  .refine jf [(some 124,11)] ?_;exact Hs
  exact IG
 .subst c7
  go_upto_region 25 with fail
  exact Kz
def DA(p:Nat)(B g m:Nat)(left loops fn:Int)(w:World)(e:Ending)(w':World):Prop:=
 ∃(t:ST) (N:Nat) (l:Int),e=.returned (.agg t.g8)/\jx (jp w.heap.size) w' t/\SG hI (4-p) N t/\0<=l/\l<=left/\(N:Int)+2*l<=2+2*left/\Bk w' m 222 #[q_ g,i_ l,i_ loops,i_ fn]/\iE w' B g/\Gr [g,m] w w'
def Dy(p:Nat)(B g m:Nat)(fn:Int):Prop:=∀(P left loops:Int) (w:World),P=p->iE w B g->Bk w m 222 #[q_ g,i_ left,i_ loops,i_ fn]->B<=m->0<=left->left<=100->0<=loops->loops<=50+p->
 Calls prog 176 #[q_ m,i_ P] w (DA p B g m left loops fn w)
def C4(p:Nat)(n:Int)(B g m:Nat)(left loops fn:Int)(w:World)(e:Ending)(w':World):Prop:=
 ∃(A:Option Addr) (c:Nat) (ts:List ST) (N:Nat) (l:Int),e=.returned (.slice A ts.length c)/\(ts.length:Int)<=n+1/\lm hI w.heap.size (4-p) N w' A c ts/\0<=l/\l<=left/\(N:Int)+2*l<=2*left/\Bk w' m 222 #[q_ g,i_ l,i_ loops,i_ fn]/\iE w' B g/\Gr [g,m] w w'
def Dh(p:Nat)(B g m:Nat)(fn:Int):Prop:=∀(P n left loops:Int) (w:World),P=p->0<=n->n<=10->iE w B g->Bk w m 222 #[q_ g,i_ left,i_ loops,i_ fn]->B<=m->0<=left->left<=100->0<=loops->loops<=50+p->
 Calls prog 139 #[q_ m,i_ P,i_ n] w (C4 p n B g m left loops fn w)
theorem r6(p:Nat)(hp:p<=3)(B g m:Nat)(fn:Int)(ap:Dy p B g m fn):Dh p B g m fn:=by
 obtain⟨i1,bK,b0,b5,cf⟩:=info_parts infoSt;intro P n left loops w hP hn0 hn1 hd Y hBm hl0 hl1 hq0 hq1;have aT:=h_ hP;clear hP;have a8:=hd.vl;have cv:=Y.lt
 have U:m≠g:=by omega
 obtain⟨i,a⟩:=nm_ (C4 p n B g m left loops fn w);rw[<-a];have aD:=h_ a;clear a;have aP:IntKind.i64.wrap (n+1)=n+1:=Eg _ o_;have Z:=Y.f_ 0
 go_enter func139,ntmps139
 go_wp2_with (go_at_call 19;refine(h8 B g (n+1) _ hd o_ o_).mono ?_;rintro e w1⟨k,rfl,b8,bW,bt,aO⟩)
 clear aP Z;replace Y:=Y.gr aO p_;have J:Gr [g,m] w w1:=aO.mono s_;clear aO hd;obtain⟨bm,b3⟩:=nm_ w.heap.size
 have au:bm<=w1.heap.size:=by rw[b3];exact J.size
 have bl:=h_ b3;clear b3
 go_loopw [7,8] (λG ar w'=>∃(r:Int) (A:Option Addr) (c:Nat) (ts:List ST) (N:Nat) (l:Int),ar=i_ r/\ -1<=r/\(ts.length:Int)+r<=n/\G=.slice A ts.length c/\lm hI bm (4-p) N w' A c ts/\0<=l/\l<=left/\(N:Int)+2*l<=2*left/\Bk w' m 222 #[q_ g,i_ l,i_ loops,i_ fn]/\iE w' B g/\Gr [g,m] w w'/\bm<=w'.heap.size) (λ_ ar _=>(intOf ar+1).toNat)
 case atStart=>exact⟨k,none,0,[],0,left,rfl,by omega,by simp;omega,rfl,lm.nil _ _ _ _,hl0,by omega,by omega,Y,bt,J,au⟩
 case round=>
  obtain⟨r,A,c,ts,N,l,rfl,bu,bD,rfl,hL,bj,be,br,de,aZ,d,aI⟩:=hrel;obtain⟨L,b⟩:=nm_ ts.length;have bg:=h_ b;have ao:=hL.own;rw[<-b]at bD ao |-;clear b Y bt J
  by_cases f:0<=r/\0<l
  .obtain⟨hg1,ad⟩:=f;have cl:=de.hJ 1 (i_ (l-1));have S:Gr [m] wr (wr.setCell (c_ m 1) (i_ (l-1))):=(D_ [m] wr).setCell (.inl s_) _;have ct:=aZ.h7 S p_;have ah:=de.f_ 1;have aS:=de.hm 1
   go_upto_region 6 with fail
   clear ah aS
   go_wp2_with (first|(go_at_call 176;refine(ap P (l-1) loops _ aT.out ct cl hBm o_ o_ hq0 hq1).mono ?_;rintro e w2⟨t,K,l2,rfl,V,bS,cG,o,H,db,dj,af⟩;have aY:=nL (nL ao S (λx I he=>by have:=(kj ao he).1;simp at I;have:=cv;have:=bl.out;omega)) af (λx I he=>by have:=(kj ao he).1;simp at I;have:=bl.out;omega);have Q:bm<=(w2.alloc (.cells t.g8 229)).heap.size:=(by have h1:=S.size;have h2:=af.size;simp;omega);have C:=nL aY ((D_ [] w2).alloc (.cells t.g8 229)) s_;obtain⟨T,h⟩:=nm_ t;have bG:=h_ h;rw[<-h]at V bS C Q;clear h;obtain⟨s1,b6,cx,dz,b7,bR,cg,df,cz,bw,sb,sc,dB,dC⟩:=t;simp only[ST.h9])|(at_builtin;refine jU rfl _ _ _ rfl bm 229 i1 _ 8 128 underlying211 bK b0 b5 cf rfl d_ d_ A L c (ts.flatMap ST.E) rfl (by rw[bG.out]at C;exact C) _ 1 1 ([T].flatMap ST.E) rfl (by rw[bG.out];exact qZ _ (L_ w2 229 _)) (kM _) o_ (by rw[bG.out]at Q;exact Q) ?_;intro ay an ae aX bE bF))
   go_roundw
   case rel=>
    have j:lm hI bm (4-p) N (w2.alloc (.cells T.g8 229)) A c ts:=by
     have h1:=hL.ir S (by intro x I;simp at I;have:=bl.out;omega);have h2:=h1.ir af (by intro x I;simp at I;have:=bl.out;omega);exact h2.ir ((D_ [] w2).alloc _) s_
    have h:jx (yf bm (Value.slice A L c).ownBlock) (w2.alloc (.cells T.g8 229)) T:=by
     refine(V.imp λx I=>⟨F_ (F_ aI S.size) I,λhe=>?_⟩).g_ ((D_ [] w2).alloc _);have h1:=(kj ao he).2;have h2:=S.size
     have:(wr.setCell (c_ m 1) (i_ (l-1))).heap.size<=x:=I
     omega
    have b:=bg.out;subst b
    replace bE:(w2.alloc (.cells T.g8 229)).grownBy ae (Value.slice A ts.length c).ownBlock:=by rw[bG.out];exact bE
    replace bF:(Value.slice ay (ts.length+1) an).ownBlock=(Value.slice A ts.length c).ownBlock∨(Value.slice ay (ts.length+1) an).ownBlock=some (w2.alloc (.cells T.g8 229)).heap.size:=by rw[bG.out];exact bF
    have cZ:=j.add (us:=[T]) aX bE bF (λu hu=>by have:u=T:=(by simpa using hu);subst this;exact h) bS
    have bC:∀x∈ot (Value.slice A ts.length c).ownBlock,bm<=x:=λx I=>(kj ao (jw.1 I)).1
    have aE:=Gr.iM bE;have dT:=Nat.le_of_eq bl.out.symm
    have q:m<bm:=by have:=bl.out;omega
    refine⟨r-1,ay,an,ts++[T],N+K,l2,rfl,by omega,by simp;omega,by simp,by simpa using cZ,cG,by omega,by push_cast;omega,(db.alloc _).gr aE (λI=>by have:=bC m I;omega),(dj.g_ ((D_ [] w2).alloc _)).h7 aE (λx I=>by have:=bC x I;omega),?_,?_⟩
    .exact(((d.trans (S.mono s_)).trans af).alloc _).hx aE (λx I=>.inr (by have:=bC x I;omega))
    .exact F_ Q aE.size
   case measure=>simp[intOf];omega
  .have bA:¬(0<=r)∨(0<=r/\¬(0<l)):=by omega
   have ah:=de.f_ 1
   rcases bA with bA|⟨bA,di⟩
   all_goals
    go_wp2;rw[aD.out,bg.out];exact⟨A,c,ts,N,l,rfl,by have:=bg.out;omega,by have:=bl.out;subst this;exact hL,bj,be,br,de,aZ,d⟩
end Go.Proofs.YtenbhdilndfaeaaGreat
