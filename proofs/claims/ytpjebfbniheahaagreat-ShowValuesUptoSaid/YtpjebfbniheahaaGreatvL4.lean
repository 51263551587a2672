/- The evaluator's library. -/
import Derived.Test.YtpjebfbniheahaaGreatvL3
set_option linter.unusedVariables false
set_option linter.unusedSimpArgs false
set_option maxRecDepth 20000
namespace Dv
open Go
def cutAt (f:Nat→Int) (n:Nat) (x:Int) (k:Nat):Prop:=k≤n∧(∀ i,i<k→f i≤x)∧∀ i,k≤i→i<n→x<f i
theorem cut_ex {f:Nat→Int} {x:Int}:∀ (n:Nat),(∀ i,i+1<n→f i<f (i+1))→∃ k,cutAt f n x k
 | 0,_=>⟨0,Nat.le_refl _,by intro i h; omega,by intro i _ h; omega⟩
 | n+1,h=>by
  obtain ⟨k,h1,h2,h3⟩:=cut_ex (f:=f) (x:=x) n (fun i hi=>h i (by omega))
  rcases Nat.lt_or_ge k n with hk | hk
  ·refine ⟨k,by omega,h2,fun i a b=>?_⟩
   rcases Nat.lt_or_ge i n with hi | hi
   ·exact h3 i a hi
   ·have e:i=n:=by omega
    subst e
    obtain ⟨j,rfl⟩:∃ j,i=j+1:=⟨i-1,by omega⟩
    have:=h j (by omega)
    have:=h3 j (by omega) (by omega)
    omega
  ·have e:k=n:=by omega
   subst e
   by_cases hx:f k≤x
   ·refine ⟨k+1,Nat.le_refl _,fun i hi=>?_,by intro i a b; omega⟩
    rcases Nat.lt_or_ge i k with a | a
    ·exact h2 i a
    ·have:i=k:=by omega
     subst this; exact hx
   ·refine ⟨k,by omega,h2,fun i a b=>?_⟩
    have:i=k:=by omega
    subst this; omega
structure Tr where
 a:Int
 o:Int
 d:Bool
 s:List UInt8
instance:Inhabited Tr:=⟨⟨0,0,false,[]⟩⟩
def Tr.v (t:Tr):PV:=.agg [.int .i64 t.a,.int .i64 t.o,.bool t.d,.str t.s]
def Tr.r (t:Tr) (e:Int):PV:=.tuple [t.v,.int .i64 e]
def pick (f:Nat→Tr) (d:Tr):Nat→Tr
 | 0=>d
 | k+1=>f k
end Dv
