import Derived.Test.YtenbhdilndfaeaaGreatM29
import Derived.Carry
import Derived.Lib.SlKeysI
import Derived.Lib.SlMapFilter
import Derived.Maps.Own
import Derived.Maps.RangeWalk
import Derived.Maps.Views
set_option maxRecDepth 100000
set_option maxHeartbeats 0
set_option linter.all false
namespace Go.Proofs.YtenbhdilndfaeaaGreat
open Go.RowKit Go.Proofs.Tryz
variable{D:DataW Unit}{P:Int->Prop}{ys:QR}
section
open Go.RowKit Go.Maps
structure qZ(D:DataW Unit)(P:Int->Prop):Prop where
 pj:∃es,D=.map es/\es.Pairwise (λp q=>p.1≠q.1)/\∀p∈es,∃x,p.1=.int .i64 x
 has:∀x,Maps.has D (.int .i64 x)=true↔P x
def qZ.empty:qZ (.map []) (λ_=>False):=⟨⟨[],rfl,List.Pairwise.nil,λb a=>by cases a⟩,λc=>by simp[Maps.has]⟩
def qZ.congr{a:Int->Prop}(h:qZ D P)(b:∀x,P x↔a x):qZ D a:=⟨h.pj,λx=>(h.has x).trans (b x)⟩
def qZ.put(h:qZ D P)(n:Int)(d:DataW Unit):qZ (D.put (.int .i64 n) d) (λx=>P x∨x=n):=by
 obtain⟨c,rfl,a,l⟩:=h.pj;have f:Maps.Tidy (DataW.map c):=⟨c,rfl,a⟩;have g:WideAt.IsKeyLit (.int .i64 n):=by simp[WideAt.IsKeyLit]
 obtain⟨i,j,k⟩:=f.put g d;refine⟨⟨i,j,k,λe a=>?_⟩,λx=>?_⟩;have b:=by
  have:DataW.map i=.map (DataW.insert (.int .i64 n,d) (c.filter λe=> !e.1.sameKey (.int .i64 n))):=j.symm;injection this
 rw[b]at a;rcases O_.1 ((WideShapes.insert_perm _ _).mem_iff.1 a)with rfl|a
 exact⟨n,rfl⟩;exact l e (HK.1 a).1;by_cases b:x=n
 .subst b;simp[Maps.has_put_same f.isMap g]
 rw[Maps.has_put_other (by intro h;injection h with _ h;exact b h)];rw[h.has];simp[b]
def qZ.perm(h:qZ D P)(hy:Asc ys P):ys.Perm (intKeys D):=by
 obtain⟨d,rfl,c,b⟩:=h.pj;exact perm_intKeys c b hy.nodup λa=>(hy.mem a).trans (h.has a).symm
def qZ.size(h:qZ D P)(hy:Asc ys P):Maps.size D=ys.length:=by
 have b:=(h.perm hy).length_eq;obtain⟨a,rfl,d,c⟩:=h.pj;rw[b];show a.length=(a.map _).length;rw[Gg]
end
