import Derived.Test.YtenbhdilndfaeaaGreatM22
set_option maxRecDepth 100000
set_option maxHeartbeats 0
set_option linter.all false
namespace Go.Proofs.YtenbhdilndfaeaaGreat
open Go.RowKit Go.Proofs.Tryz
variable{i:Nat}{cur:Array Value}(v:Int)(l:List In)(k:Nat)
theorem mM.AO{base g:Nat}{w:World}{s:GS}(h:mM base w g s)(VA:Option Addr)(vc:Nat)(vs:List ByteArray)(hv:Bs w VA vs):
 mM base (((w.setCell (c_ g 6) (.slice VA vs.length vc)).setCell (c_ g 7) (i_ 0)).setCell (c_ g 8) (i_ 0)) g {s with VA:=VA,vc:=vc,vs:=vs,hidden:=0,most:=0}/\Gt base gT w (((w.setCell (c_ g 6) (.slice VA vs.length vc)).setCell (c_ g 7) (i_ 0)).setCell (c_ g 8) (i_ 0)):=by
 have b1:=h.hg.hJ 6 (.slice VA vs.length vc);have b2:=b1.hJ 7 (i_ 0);have dE:=b2.hJ 8 (i_ 0)
 have hk:∀e,e≠210->ms e w (((w.setCell (c_ g 6) (.slice VA vs.length vc)).setCell (c_ g 7) (i_ 0)).setCell (c_ g 8) (i_ 0)):=λe he=>((ms.set h.hg (Ne.symm he) _ _).trans (.set b1 (Ne.symm he) _ _)).trans (.set b2 (Ne.symm he) _ _)
 refine⟨⟨dE,h.hbg,(hk _ d_).own h.hl,(hk _ d_).own h.hc,(hk _ d_).own h.ho,λa ha=>⟨(hk 30 d_).bk (h.hb a ha).1,(h.hb a ha).2⟩,h.hbn,λr hr=>(hk 3 d_).own (h.hi r hr),h.kb,(hk 9 d_).sl hv,F_ h.hz (hk 9 d_).1⟩,((Gt.set h.hg h.hbg d_ _ _).trans (.set b1 h.hbg d_ _ _)).trans (.set b2 h.hbg d_ _ _)⟩
theorem mM.CP{base g:Nat}{w w':World}{s:GS}(h:mM base w g s)(hs:s.rt++s.os=[])(A':Option Addr)(c':Nat)(i:Int)
 (bE:w.grownBy w' (Value.slice s.EA s.es.length s.ec).ownBlock) (ao:w'.ownsRow base 3 1 (.slice A' (s.es.length+1) c') (s.es.length+1) (s.es.map (i_)++[i_ i]))
 (o:(Value.slice A' (s.es.length+1) c').ownBlock=(Value.slice s.EA s.es.length s.ec).ownBlock∨(Value.slice A' (s.es.length+1) c').ownBlock=some w.heap.size):
 Bk w' g 210 s.g8/\mM base (w'.setCell (c_ g 3) (.slice A' (s.es.length+1) c')) g {s with EA:=A',ec:=c',es:=s.es++[i]}/\Gt base gT w (w'.setCell (c_ g 3) (.slice A' (s.es.length+1) c')):=by
 have aq:=h.hi (.slice s.EA s.es.length s.ec,s.es) (by simp[GS.rows]);have dr:=h.hi (.slice s.FA s.fs.length s.fc,s.fs) (by simp[GS.rows]);have kb:=h.kb
 have bu:s.rows=[(.slice s.EA s.es.length s.ec,s.es)]++[(.slice s.FA s.fs.length s.fc,s.fs)]:=by unfold GS.rows;rw[hs];rfl
 rw[bu,j4]at kb
 have av:∀b,(Value.slice s.FA s.fs.length s.fc).ownBlock=some b->(Value.slice s.EA s.es.length s.ec).ownBlock≠some b:=λb hb=>kb.2 b hb (.slice s.EA s.es.length s.ec,s.es) s_
 have j:∀e,e≠3->ms e w w':=λe he=>.app bE aq (Ne.symm he)
 have f:=(j _ d_).bk h.hg
 have u:∀e,e≠210->ms e w' (w'.setCell (c_ g 3) (.slice A' (s.es.length+1) c')):=λe he=>.set f (Ne.symm he) _ _
 have hk:=λe h1 h2=>(j e h1).trans (u e h2)
 have bD:GS.rows {s with EA:=A',ec:=c',es:=s.es++[i]}=[(.slice A' (s.es.length+1) c',s.es++[i])]++[(.slice s.FA s.fs.length s.fc,s.fs)]:=by unfold GS.rows;rw[hs];simp
 refine⟨f,⟨?_,h.hbg,(hk _ d_ d_).own h.hl,(hk _ d_ d_).own h.hc,(hk _ d_ d_).own h.ho,λa ha=>⟨(hk 30 d_ d_).bk (h.hb a ha).1,(h.hb a ha).2⟩,h.hbn,λr hr=>?_,?_,(hk 9 d_ d_).sl h.hv,F_ h.hz (hk 9 d_ d_).1⟩,(Gt.app bE aq d_).trans (.set f h.hbg d_ _ _)⟩
 .have:=f.hJ 3 (.slice A' (s.es.length+1) c')
  exact Kt
 .rw[bD]at hr;refine(u 3 d_).own ?_
  rcases T_.1 hr with hr|hr
  .have:r=(.slice A' (s.es.length+1) c',s.es++[i]):=by simpa using hr
   subst this
   simpa using ao
  .have:r=(.slice s.FA s.fs.length s.fc,s.fs):=by simpa using hr
   subst this
   exact nL dr (Gr.iM bE) λx I he=>av x he (jw.1 I)
 .rw[bD,j4];refine⟨?_,λb hb r hr he=>?_⟩
  .simp only[List.filterMap_cons,List.filterMap_nil];split<;>simp
  .have:r=(.slice A' (s.es.length+1) c',s.es++[i]):=by simpa using hr
   subst this
   rcases o with ho|ho
   .exact av b hb (ho.symm.trans he)
   .have h1:=(kj dr hb).2
    have:some w.heap.size=some b:=ho.symm.trans he
    injection this;omega
theorem mM.CO{base g:Nat}{w w':World}{s:GS}(h:mM base w g s)(hs:s.rt++s.os=[])(A':Option Addr)(c':Nat)(i:Int)
 (bE:w.grownBy w' (Value.slice s.FA s.fs.length s.fc).ownBlock) (ao:w'.ownsRow base 3 1 (.slice A' (s.fs.length+1) c') (s.fs.length+1) (s.fs.map (i_)++[i_ i]))
 (o:(Value.slice A' (s.fs.length+1) c').ownBlock=(Value.slice s.FA s.fs.length s.fc).ownBlock∨(Value.slice A' (s.fs.length+1) c').ownBlock=some w.heap.size):
 Bk w' g 210 s.g8/\mM base (w'.setCell (c_ g 4) (.slice A' (s.fs.length+1) c')) g {s with FA:=A',fc:=c',fs:=s.fs++[i]}/\Gt base gT w (w'.setCell (c_ g 4) (.slice A' (s.fs.length+1) c')):=by
 have aq:=h.hi (.slice s.FA s.fs.length s.fc,s.fs) (by simp[GS.rows]);have dG:=h.hi (.slice s.EA s.es.length s.ec,s.es) (by simp[GS.rows]);have kb:=h.kb
 have bu:s.rows=[(.slice s.EA s.es.length s.ec,s.es)]++[(.slice s.FA s.fs.length s.fc,s.fs)]:=by unfold GS.rows;rw[hs];rfl
 rw[bu,j4]at kb
 have av:∀b,(Value.slice s.FA s.fs.length s.fc).ownBlock=some b->(Value.slice s.EA s.es.length s.ec).ownBlock≠some b:=λb hb=>kb.2 b hb (.slice s.EA s.es.length s.ec,s.es) s_
 have j:∀e,e≠3->ms e w w':=λe he=>.app bE aq (Ne.symm he)
 have f:=(j _ d_).bk h.hg
 have u:∀e,e≠210->ms e w' (w'.setCell (c_ g 4) (.slice A' (s.fs.length+1) c')):=λe he=>.set f (Ne.symm he) _ _
 have hk:=λe h1 h2=>(j e h1).trans (u e h2)
 have bD:GS.rows {s with FA:=A',fc:=c',fs:=s.fs++[i]}=[(.slice s.EA s.es.length s.ec,s.es)]++[(.slice A' (s.fs.length+1) c',s.fs++[i])]:=by unfold GS.rows;rw[hs];simp
 refine⟨f,⟨?_,h.hbg,(hk _ d_ d_).own h.hl,(hk _ d_ d_).own h.hc,(hk _ d_ d_).own h.ho,λa ha=>⟨(hk 30 d_ d_).bk (h.hb a ha).1,(h.hb a ha).2⟩,h.hbn,λr hr=>?_,?_,(hk 9 d_ d_).sl h.hv,F_ h.hz (hk 9 d_ d_).1⟩,(Gt.app bE aq d_).trans (.set f h.hbg d_ _ _)⟩
 .have:=f.hJ 4 (.slice A' (s.fs.length+1) c')
  exact Kt
 .rw[bD]at hr;refine(u 3 d_).own ?_
  rcases T_.1 hr with hr|hr
  .have:r=(.slice s.EA s.es.length s.ec,s.es):=by simpa using hr
   subst this
   exact nL dG (Gr.iM bE) λx I he=>av x (jw.1 I) he
  .have:r=(.slice A' (s.fs.length+1) c',s.fs++[i]):=by simpa using hr
   subst this
   simpa using ao
 .rw[bD,j4];refine⟨kb.1,λb hb r hr he=>?_⟩
  have:r=(.slice s.EA s.es.length s.ec,s.es):=by simpa using hr
  subst this
  rcases o with ho|ho
  .exact av b (ho.symm.trans hb) he
  .have h1:=(kj dG he).2
   have:some w.heap.size=some b:=ho.symm.trans hb
   injection this;omega
theorem oQ.first:oQ [⟨21,0,0,0,0⟩] 1 [] [] 0 where
 code:=⟨by decide,λi hi=>by
  have:i=0:=by simpa using hi
  subst this
  show PF _ _ _ (⟨21,0,0,0,0⟩:In)
  unfold PF;rw[P_ d_,P_ d_]
  decide,by decide⟩
 we:=by decide
 cs1:=λp hp=>by cases hp
 cs2:=λi hi e=>by
  have:i=0:=by simpa using hi
  subst this;simp at e
 pI:=λa ha=>by cases ha
 q:=by decide
 yN:=by decide
 rM:=λa ha=>by cases ha
structure Bo(k:Nat)(pv:Value)(n:Nat)(v:iK):Prop where
 pv:v.pv=pv
 el:v.es.length=k
 fl:v.fs.length=k
 e21:∀e∈v.es,0<=e/\e<v.l.length/\ij v.l e=21
 f64:∀f∈v.fs,2<=f/\f<=64
 len:v.l.length<=n
 ats:v.ats=[]
 rts:v.rts=[]
 ok:(k=0/\v.l=[]/\v.g9=0/\v.cs=[])∨∃q,oQ v.l v.g9 v.cs [] q/\q<v.l.length/\ij v.l ((v.l.length:Int)-1)=14
theorem Bo.mark{k n:Nat}{pv:Value}{v:iK}(h:Bo k pv n v):oQ v.mark.l v.mark.g9 v.mark.cs [] v.l.length/\0<=v.g9/\v.g9<=n:=by
 rcases h.ok with⟨_,h1,h2,h3⟩|⟨q,h1,h2,_⟩
 .have:=oQ.first
  unfold iK.mark;rw[h1,h2,h3];exact⟨this,by omega,by omega⟩
 .refine⟨h1.mark,?_,?_⟩
  .rw[h1.we];unfold jr;omega
  .rw[h1.we];unfold jr
   have:=Em (λi:In=>i.op==21) v.l
   have:=h.len
   omega
theorem Bo.next{k n m n' D:Nat}{pv:Value}{v t a:iK}{q:Int}(h:Bo k pv n v)(eb:qQ v.l t.l)(ek:ij t.l v.l.length=21)(ed:t.l.length=v.l.length+1)(dB:t.es=v.es++[(v.l.length:Int)])(dD:t.fs=v.fs)(cX:t.pv=pv)(B:t.ats=[])(N:t.rts=[])
 (P:GP t a m) (H:GK a q D) (aq:q<a.l.length) (co:ij a.l ((a.l.length:Int)-1)=14) (u:Int) (hu:2<=u/\u<=64) (hn:n+1+m<=n'):Bo (k+1) pv n' {a with fs:=a.fs++[u]}:=by
 have ha:=by have h1:=P.pI;rw[B]at h1;simpa using h1
 refine⟨P.pv.trans cX,?_,?_,?_,?_,?_,ha,P.rt.trans N,.inr ⟨q,?_,aq,co⟩⟩
 .show a.es.length=k+1
  rw[P.es,dB,H_,h.el]
  rfl
 .show(a.fs++[u]).length=k+1
  rw[H_,P.fs,dD,h.fl]
  rfl
 .show ∀e∈a.es,0<=e/\e<a.l.length/\ij a.l e=21
  rw[P.es,dB];have b0:=P.kp;intro e he
  rcases T_.1 he with he|he
  .obtain⟨h1,h2,h3⟩:=h.e21 e he;have ax:=b0.1;exact⟨h1,by omega,(b0.2 e o_).trans ((eb.2 e h2).trans h3)⟩
  .have:e=(v.l.length:Int):=by simpa using he
   subst this;have ax:=b0.1;exact⟨by omega,by omega,(b0.2 _ o_).trans ek⟩
 .show ∀f∈a.fs++[u],2<=f/\f<=64
  intro f hf
  rcases T_.1 hf with hf|hf
  .rw[P.fs,dD]at hf;exact h.f64 f hf
  .have:f=u:=by simpa using hf
   subst this;exact hu
 .show a.l.length<=n'
  have:=P.len
  have:=h.len
  omega
 .have:=H.ok
  rw[ha]at this;exact this
def o8(v:Int)(l:List In)(i:Nat):List In:=l.modify i λx=>⟨x.op,x.a,x.b,v,x.n⟩
theorem xY(i:Nat):(o8 v l i).length=l.length:=by simp[o8]
theorem xX(hk:k<l.length):o8 v l k=l.set k ⟨l[k].op,l[k].a,l[k].b,v,l[k].n⟩:=by
 refine FD (by simp[o8]) λi h1 h2=>?_
 simp only[o8,Fb,List.getElem_set];split
 .rename_i h;subst h
  rfl
 .rfl
theorem uv(hk:k<l.length):(lH l).set (k*5+3) (i_ v)=lH (o8 v l k):=by
 rw[xX v l k hk];exact pn In.E 5 (λ_=>rfl) l k 3 _ _ hk o_ rfl
theorem ya(es fs:List Int)(l:List In)(i f:Nat):o8 (fs.getD f 0) (lR (es.getD f 0) l i) i=jW es fs l ((i:Int),(f:Int)):=by
 refine FD (by simp[o8,lR,jW]) λk h1 h2=>?_
 simp only[o8,lR,jW,Fb,ED];split<;>rfl
theorem ints_at(l:List Int)(k:Nat)(h:k<l.length):(l.map (Value.int .i64))[k]?=some (i_ (l.getD k 0)):=by
 simp[Eq,h]
section
variable{base g:Nat}{w:World}{s:GS}
theorem mM.p3(h:mM base w g s){m f:Nat}(hl:s.l.length=m)(hi:i<m)(he:s.es.length=3)(hf:s.fs.length=3)(V:f<3):
 ∃G cF X lc ec fc cur,s.L=some (c_ G 0)/\base<=G/\Bk w G 189 cur/\w.cell? (c_ g 1)=some (.slice (j_ G) m lc)/\w.cell? (c_ g 3)=some (.slice (j_ cF) 3 ec)/\w.cell? (c_ g 4)=some (.slice (j_ X) 3 fc)/\
  w.cell? (c_ cF f)=some (i_ (s.es.getD f 0))/\w.cell? (c_ X f)=some (i_ (s.fs.getD f 0))/\(∃o,w.cell? (c_ G (i*5+4))=some (i_ o))/\∃o,w.cell? (c_ G (i*5+3))=some (i_ o):=by
 obtain⟨G,cur,bW,cG,R,r⟩:=ky h.hl o_;obtain⟨cF,e,a,_,a2,b⟩:=ky (h.hi (.slice s.EA s.es.length s.ec,s.es) (by simp[GS.rows])) o_;obtain⟨X,j,Y,_,aD,d⟩:=ky (h.hi (.slice s.FA s.fs.length s.fc,s.fs) (by simp[GS.rows])) o_;refine⟨G,cF,X,s.lc,s.ec,s.fc,cur,bW,cG,R,?_,?_,?_,?_,?_,⟨(s.l[i]'o_).n,?_⟩,⟨(s.l[i]'o_).c,?_⟩⟩
 .exact(h.hg.f_ 1).trans (by show some (Value.slice s.L s.l.length s.lc)=_;rw[bW,hl])
 .exact(h.hg.f_ 3).trans (by show some (Value.slice s.EA s.es.length s.ec)=_;rw[a,he])
 .exact(h.hg.f_ 4).trans (by show some (Value.slice s.FA s.fs.length s.fc)=_;rw[Y,hf])
 .exact(a2.f_ f).trans (b _ _ (ints_at s.es f o_))
 .exact(aD.f_ f).trans (d _ _ (ints_at s.fs f o_))
 .exact(R.f_ _).trans (r _ _ ((iW In.E 5 (λ_=>rfl) s.l i 4 o_ o_).trans rfl))
 .exact(R.f_ _).trans (r _ _ ((iW In.E 5 (λ_=>rfl) s.l i 3 o_ o_).trans rfl))
theorem mM.y6(h:mM base w g s){G:Nat}(hL:s.L=some (c_ G 0))(hB:Bk w G 189 cur){k:Nat}{u:Value}{l:List In}(iv:l.length=s.l.length)(e:(lH s.l).set (i*5+k) u=lH l):
 mM base (w.setCell (c_ G (i*5+k)) u) g {s with l:=l}:=by
 have a:∀e,e≠189->ms e w (w.setCell (c_ G (i*5+k)) u):=λe he=>.set hB (Ne.symm he) _ _
 have be:=h.hl;rw[hL]at be;have C:=xh be (i*5+k) u;rw[e]at C
 have j:s.g8=GS.g8 {s with l:=l}:=by unfold GS.g8;simp only[iv]
 exact h.rI (L:=s.L) (lc:=s.lc) (l:=l) (g9:=s.g9) (hidden:=s.hidden) (most:=s.most) (by rw[<-j];exact(a _ d_).bk h.hg) (by rw[hL,iv];exact C) λe he=>a e (by rintro rfl;revert he;decide)
theorem mM.BT(h:mM base w g s){G:Nat}(hL:s.L=some (c_ G 0))(hB:Bk w G 189 cur)(hi:i<s.l.length)(u:Int):
 mM base (w.setCell (c_ G (i*5+4)) (i_ u)) g {s with l:=lR u s.l i}:=h.y6 hL hB (lk _ _ _) (qE u s.l i hi)
theorem mM.BU(h:mM base w g s){G:Nat}(hL:s.L=some (c_ G 0))(hB:Bk w G 189 cur)(hi:i<s.l.length)(u:Int):
 mM base (w.setCell (c_ G (i*5+3)) (i_ u)) g {s with l:=o8 u s.l i}:=h.y6 hL hB (xY _ _ _) (uv u s.l i hi)
end
end Go.Proofs.YtenbhdilndfaeaaGreat
