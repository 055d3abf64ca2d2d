import Derived.Test.YtenbhdilndfaeaaGreatR31
import Derived.Test.YtenbhdilndfaeaaGreatR36
set_option maxRecDepth 100000
set_option maxHeartbeats 0
set_option linter.all false
namespace Go.Proofs.YtenbhdilndfaeaaGreat
open Go.RowKit Go.Proofs.Tryz
variable{h:List Ob}
def wM{n:Int}:(iU h n).isSome=true↔n∈hQ h:=by
 unfold iU hQ;rw[List.find?_isSome];constructor
 .rintro⟨c,b,a⟩;exact Z_.2 ⟨c,b,by simpa using a⟩
 .intro d;obtain⟨c,b,a⟩:=Z_.1 d;exact⟨c,b,by simpa using a⟩
def CI.refs{run:Int}(c:CI run h):∀x∈kc h,x∈hQ h:=by
 intro x b;obtain⟨i,f,b⟩:=Ha.1 b;obtain⟨d,a,rfl⟩:=Z_.1 b;obtain⟨a,g⟩:=F5.1 a
 have e:d.r=true/\d.n≠0:=by simpa[isRef]using g
 rcases(c.cl i f).2 d a e.1 with h|h
 .exact U_ h e.2
 .exact h
def uB.run{run n:Int}(h:uB run n)(a:k7 n=true):0<=uv n/\uv n<run:=by
 unfold k7 at a;have a:=of_decide_eq_true a;unfold uv;rw[I_ (by omega)]
 rcases h with h|h|⟨i,g,d,e,f,b,c⟩
 .omega
 .omega
 .omega
def yo.ci{a:Md}(h:yo a):∃run:Int,0<=run/\CI run (hU a.s.h.l)/\∀t∈a.ts,rF t.p/\run<=t.run/\t.run<=1000000016/\t.p.nw.length<=500000:=by
 obtain⟨p,run,o,f,n⟩:=h.cm;have g:=(ky h.val).2.1;have e:=f.ci h.val g;have j:=f.cb h.val;refine⟨run,e.1,e.2,?_⟩
 rcases n with⟨_,k,_⟩|⟨_,_,q,_,d⟩
 .rw[k];intro t c
  cases c
 .intro t c;have b:t.p∈a.ts.map Tk.p:=Z_.2 ⟨t,c,rfl⟩;have i:=d.own h.val _ b;have l:=d.DS h.val g (f.DS h.val (by omega)) e.1 (by have:=j.2.2;omega) _ b;have m:=(d.tf h.val g _ b).1.sm.nw;exact⟨i.1,i.2,l.2.2,m⟩
def rF.split{t:i6}(h:rF t){run:Int}{b:List Ob}(c:CI run b)(n:0<=run)(j:run<=t.run)(m:t.nw.length<=500000){k:Nat}(f:k<t.nw.length):
 uv (t.nw[k]).id=t.run/\DW (t.nw[k]).id=k/\decide (1048576<=(t.nw[k]).id)=true/\iU b (t.nw[k]).id=none:=by
 have a:(t.nw[k]).id=(t.run+1)*1048576+(k:Int):=by
  have d:(hQ t.nw)[k]?=((List.range t.nw.length).map λk:Nat=>(t.run+1)*1048576+(k:Int))[k]?:=by rw[h]
  unfold hQ at d;rw[F4,F4,L_ f,List.getElem?_range f]at d
  simpa using d
 have e:1048576<=(t.nw[k]).id:=by rw[a];omega
 refine⟨?_,?_,FX e,?_⟩
 .unfold uv;rw[I_ (by omega),a];omega
 .unfold DW;rw[I_ (by omega),a];omega
 .cases i:iU b (t.nw[k]).id with
  |none=>rfl
  |some o=>
   exfalso
   have g:=wM.1 (show(iU b (t.nw[k]).id).isSome=true by rw[i];rfl)
   have:=(c.old _ g).run (by unfold k7;exact FX e)
   have l:uv (t.nw[k]).id=t.run:=by unfold uv;rw[I_ (by omega),a];omega
   omega
