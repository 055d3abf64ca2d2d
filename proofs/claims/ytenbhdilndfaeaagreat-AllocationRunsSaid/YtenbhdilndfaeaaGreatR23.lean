import Derived.Test.YtenbhdilndfaeaaGreatR06
set_option maxRecDepth 100000
set_option maxHeartbeats 0
set_option linter.all false
namespace Go.Proofs.YtenbhdilndfaeaaGreat
open Go.RowKit Go.Proofs.Tryz
variable{w:World}{A:OA}{l:List Rw}{k:Nat}
def xh(e:TypeId)(w:World)(A:OA)(l:List Rw):Prop:=Sl w e 2 A l.length (jP l)
def yQ(e:TypeId)(w:World)(A:OA)(l:List Vl):Prop:=Sl w e 2 A l.length (jd l)
def uA(E:Rw->TypeId)(w:World)(l:List Rw):Prop:=∀r∈l,yQ (E r) w r.A r.o.fs/\r.o.fs.length<=1000000000
def xh.g_{e:TypeId}{w':World}(h:xh e w A l)(a:J [] w w'):xh e w' A l:=Sl.g_ h a
def yQ.g_{e:TypeId}{w':World}{l:List Vl}(h:yQ e w A l)(a:J [] w w'):yQ e w' A l:=Sl.g_ h a
def uA.g_{E:Rw->TypeId}{w':World}(h:uA E w l)(c:J [] w w'):uA E w' l:=λb a=>⟨(h b a).1.g_ c,(h b a).2⟩
def xh.alloc{e:TypeId}(h:xh e w A l)(a:Obj):xh e (w.alloc a) A l:=Sl.alloc h a
def yQ.alloc{e:TypeId}{l:List Vl}(h:yQ e w A l)(a:Obj):yQ e (w.alloc a) A l:=Sl.alloc h a
def yQ.drew{e:TypeId}{l:List Vl}(h:yQ e w A l):yQ e w.drew A l:=h
def Os.e(h:Os w A l):xh 56 w A l:=h
def nV.e(h:nV w l):uA (λ_=>38) w l:=h
def yQ.at_{e:TypeId}{l:List Vl}(h:yQ e w A l)(hk:k<l.length):
 ∃b off,A=some (Z b off)/\w.cell? (Z b (off+k*2))=some (.bool l[k].r)/\w.cell? (Z b (off+k*2+1))=some (Y l[k].n):=by
 exact Ka
def xh.at_{e:TypeId}(h:xh e w A l)(hk:k<l.length):
 ∃b off,A=some (Z b off)/\w.cell? (Z b (off+k*2))=some (Y l[k].o.id)/\w.cell? (Z b (off+k*2+1))=some (.slice l[k].A l[k].o.fs.length l[k].c):=by
 exact Kc
