/-
Function values without captured variables, told by their functions' numbers; rows of them. Conditions: as each theorem says.
-/
import Derived.LoopN
import Derived.Test.YtbipbbckfmilfaaXWords
import Derived.Test.YtbipbbckfmilfaaWWords
import Derived.Test.YtbipbbckfmilfaaWLast
import Derived.Test.YtbipbbckfmilfaaWMore
namespace Go.Proofs.Ytbipbbckfmilfaa.XFn
open Go.RowKit Go.Proofs.YtbipbbckfmilfaaW.PrintWords Go.Proofs.YtbipbbckfmilfaaW.PrintLast Go.Proofs.YtbipbbckfmilfaaW.PrintMore Go.Proofs.Ytbipbbckfmilfaa.XWords
/-- The value of a function. -/
def enc (n : Nat) : Value := .func (.func n) #[] #[]
def Kd.fn : Kd Nat := Kd.scalar enc (fun _ => rfl)
theorem Kd.at_fn {w : World} {A : Option Addr} {n : Nat} {xs : List Nat} (h : Kd.fn.C w A n xs) (i : Int) (h0 : 0 ≤ i) (h1 : i < n) : ∃ ad, A = some ad ∧ w.cell? (ad.add i.toNat) = some (enc (rdOf 0 xs i)) :=
  Go.Proofs.YtbipbbckfmilfaaW.PrintWords.ReadsOf.at_ (Go.Proofs.YtbipbbckfmilfaaW.PrintWords.Kd.reads_of_C (enc := enc) (d := 0) (h1 := fun _ => rfl) h) i h0 h1
section
variable {P : Program} {ops : Array Oper} {Q : Exit → Act → World → Prop}
/-- A call through a slot that holds a function's value, in a region that draws its order. -/
theorem goesT_ {oi : Oper} {N : Option Tmp} {a : Act} {w : World} {K : Act → World → Prop} {f : FuncId} {fn : Func} {c : Tmp} {as : Array Operand} {ts : Array TypeId} (hf : P.funcs[f]? = some fn) (hname : (fn.name == "runtime.NumGoroutine") = false) (hb : fn.body.isSome = true) (args : Array Value)
    (hw : Region.wanted oi (yielded ops a.tmps) = true) (hN : oi.dst = N) (hop : oi.op = .call { callee := .value (.tmp c), args := as, argTypes := ts }) (hargs : as.map a.eval = args)
    (h : Calls P f args w fun e w' => ∃ v, e = .returned v ∧ K (a.put N v) w') (hc : a.eval (.tmp c) = .func (.func f) #[] #[] := by rfl) : if Region.wanted oi (yielded ops a.tmps) = true then Oper.wp P oi a w K Q else K (a.put N undef) w := by
  refine call_ f args hw hN ?_ h
  have he := enters_ hf hname hb args w
  unfold execOp
  simp [hop, resolve, hc, Deferred.ofValue, invoke, hargs, he]
end
end Go.Proofs.Ytbipbbckfmilfaa.XFn
