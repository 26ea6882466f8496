import PyProof.Rows.All
import Wide.All
import OpenK.AllK
import Wide.FinOn
import PyProof.Rows.TupMore
import PyProof.P3Statements
import PyProof.P3Eq
import PyProof.CompFree
import PyProof.Cells
import PyProof.Rows.PlainNoArg
import PyProof.Rows.AttrNode
import OpenK.KRaise
import PyProof.ForAny
import PyProof.Rows.CatchBare
import PyProof.RulesAs
import PyProof.Rows.Top
import PyProof.ExcArgsOwn
import PyProof.ExcAttrAll.ValueError
import PyProof.IsiBase
import PyProof.IsInstance
import KE.IntBitsLaws
import PyProof.Rows.SortRuns
import PyProof.Rows.SortShell
import PyProof.Rows.SortShellK
import KE.KSortTup
import PySem.Challenge.RW_uf060001_02
set_option tactic.hygienic false
set_option linter.all false
set_option genInjectivity false
set_option genCtorIdx false
set_option bootstrap.genMatcherCode false
set_option genSizeOf false
set_option genSizeOfSpec false
section
open PySem PySem.W PyProof.Rows
namespace Mini.Internal
noncomputable def noAsg:Stmt→Bool
 | .Assign ..=>false
 | _=>true
noncomputable def vw:Program:={ PySem.Challenge.pw_uf060001_02 with main:={ PySem.Challenge.pw_uf060001_02.main with body:=PySem.Challenge.pw_uf060001_02.main.body.filter noAsg } }
noncomputable def subs : List Str := [Str.ofString "BadStretch", Str.ofString "Twice", Str.ofString "Missing"]
noncomputable def sSpan : Str := Str.ofString "SpanError"
noncomputable def sCls : Str := "__class__"
noncomputable def bmV : List Value := [.type "ValueError", .type "Exception", .type "BaseException", .type "object"]
noncomputable def subOk (s:Shared):Bool:=subs.all fun x=>match s.heap.clsAt mainGlobals x,s.heap.clsAt mainGlobals sSpan with
 | some y,some z=>y.2.2.mro == .ref y.1::.ref z.1::bmV && (s.heap.isNs y.2.2.ns && (s.heap.nsMap y.2.2.ns sCls).isNone) && (s.heap.isNs z.2.2.ns && (s.heap.nsMap z.2.2.ns sCls).isNone) && !(y.1 == z.1) && subs.all (fun w=>w == x || !(s.heap.nsMap mainGlobals w == some (.ref y.1)))
 | _,_=>false
noncomputable def Xt2 (s:Shared):Bool:=xlAt vw [] s && recOk [] s && subOk s
set_option Elab.async false in
set_option maxRecDepth 100000 in
theorem left_ok:LeftO PySem.Challenge.pw_uf060001_02 vw [] Xt2 (Hook.obs Hook.none) (Hook.val Hook.none) 4000:=by
 intro w
 kernel_rfl
end Mini.Internal
end
set_option autoImplicit false
namespace Mini.Internal
theorem byC {p:Prop} (h:¬ p→False):p:=Classical.byContradiction h
theorem rE {A:Type}{p0:A→Prop}{P:Prop} (k:∀a,p0 a→P) (h:∃a,p0 a):P:=h.elim k
theorem rEE {A B:Type}{p0:A→B→Prop}{P:Prop} (k:∀a b,p0 a b→P) (h:∃a b,p0 a b):P:=rE (fun a=>rE (p0:=p0 a) (k a)) h
theorem rEEE {A B C:Type}{p0:A→B→C→Prop}{P:Prop} (k:∀a b c,p0 a b c→P) (h:∃a b c,p0 a b c):P:=rE (fun a=>rEE (p0:=p0 a) (k a)) h
theorem rEEEE {A B C D:Type}{p0:A→B→C→D→Prop}{P:Prop} (k:∀a b c d,p0 a b c d→P) (h:∃a b c d,p0 a b c d):P:=rE (fun a=>rEEE (p0:=p0 a) (k a)) h
theorem rEEEEE {A B C D E:Type}{p0:A→B→C→D→E→Prop}{P:Prop} (k:∀a b c d e,p0 a b c d e→P) (h:∃a b c d e,p0 a b c d e):P:=rEEEE (fun a b c d=>rE (p0:=p0 a b c d) (k a b c d)) h
theorem rEEEEEE {A B C D E F:Type}{p0:A→B→C→D→E→F→Prop}{P:Prop} (k:∀a b c d e f,p0 a b c d e f→P) (h:∃a b c d e f,p0 a b c d e f):P:=rEEEE (fun a b c d=>rEE (p0:=p0 a b c d) (k a b c d)) h
theorem rEEEEEEE {A B C D E F G:Type}{p0:A→B→C→D→E→F→G→Prop}{P:Prop} (k:∀a b c d e f g,p0 a b c d e f g→P) (h:∃a b c d e f g,p0 a b c d e f g):P:=rEEEE (fun a b c d=>rEEE (p0:=p0 a b c d) (k a b c d)) h
theorem rEEEEEEEE {A B C D E F G I:Type}{p0:A→B→C→D→E→F→G→I→Prop}{P:Prop} (k:∀a b c d e f g i,p0 a b c d e f g i→P) (h:∃a b c d e f g i,p0 a b c d e f g i):P:=rEEEE (fun a b c d=>rEEEE (p0:=p0 a b c d) (k a b c d)) h
theorem rEEEEEEEEE {A B C D E F G I J:Type}{p0:A→B→C→D→E→F→G→I→J→Prop}{P:Prop} (k:∀a b c d e f g i j,p0 a b c d e f g i j→P) (h:∃a b c d e f g i j,p0 a b c d e f g i j):P:=rEEEE (fun a b c d=>rEEEEE (p0:=p0 a b c d) (k a b c d)) h
theorem rEEEEEEEEEEEE {A B C D E F G I J L M N:Type}{p0:A→B→C→D→E→F→G→I→J→L→M→N→Prop}{P:Prop} (k:∀a b c d e f g i j l m n,p0 a b c d e f g i j l m n→P) (h:∃a b c d e f g i j l m n,p0 a b c d e f g i j l m n):P:=rEEEE (fun a b c d=>rEEEEEEEE (p0:=p0 a b c d) (k a b c d)) h
theorem rEEEEEEEEEEEEE {A B C D E F G I J L M N O:Type}{p0:A→B→C→D→E→F→G→I→J→L→M→N→O→Prop}{P:Prop} (k:∀a b c d e f g i j l m n o,p0 a b c d e f g i j l m n o→P) (h:∃a b c d e f g i j l m n o,p0 a b c d e f g i j l m n o):P:=rEEEE (fun a b c d=>rEEEEEEEEE (p0:=p0 a b c d) (k a b c d)) h
theorem rEEEEEEEEEEEEEEEEE {A B C D E F G I J L M N O Q R S T:Type}{p0:A→B→C→D→E→F→G→I→J→L→M→N→O→Q→R→S→T→Prop}{P:Prop} (k:∀a b c d e f g i j l m n o q r s t,p0 a b c d e f g i j l m n o q r s t→P) (h:∃a b c d e f g i j l m n o q r s t,p0 a b c d e f g i j l m n o q r s t):P:=rEEEE (fun a b c d=>rEEEEEEEEEEEEE (p0:=p0 a b c d) (k a b c d)) h
theorem rA {p0 p1 P:Prop} (k:p0→p1→P) (h:p0∧p1):P:=k h.1 h.2
theorem rAA {p0 p1 p2 P:Prop} (k:p0→p1→p2→P) (h:p0∧p1∧p2):P:=k h.1 h.2.1 h.2.2
theorem rAE {A:Type}{p0:Prop}{p1:A→Prop}{P:Prop} (k:p0→∀a,p1 a→P) (h:p0∧∃a,p1 a):P:=rE (fun a1 b2=>k h.1 a1 b2) h.2
theorem rEA {A:Type}{p0 p1:A→Prop}{P:Prop} (k:∀a,p0 a→p1 a→P) (h:∃a,p0 a∧p1 a):P:=rE (fun a0 b1=>k a0 b1.1 b1.2) h
theorem rAAA {p0 p1 p2 p3 P:Prop} (k:p0→p1→p2→p3→P) (h:p0∧p1∧p2∧p3):P:=k h.1 h.2.1 h.2.2.1 h.2.2.2
theorem rAAE {A:Type}{p0 p1:Prop}{p2:A→Prop}{P:Prop} (k:p0→p1→∀a,p2 a→P) (h:p0∧p1∧∃a,p2 a):P:=rE (fun a2 b3=>k h.1 h.2.1 a2 b3) h.2.2
theorem rAEA {A:Type}{p0:Prop}{p1 p2:A→Prop}{P:Prop} (k:p0→∀a,p1 a→p2 a→P) (h:p0∧∃a,p1 a∧p2 a):P:=rE (fun a1 b2=>k h.1 a1 b2.1 b2.2) h.2
theorem rEAA {A:Type}{p0 p1 p2:A→Prop}{P:Prop} (k:∀a,p0 a→p1 a→p2 a→P) (h:∃a,p0 a∧p1 a∧p2 a):P:=rE (fun a0 b1=>k a0 b1.1 b1.2.1 b1.2.2) h
theorem rEEA {A B:Type}{p0 p1:A→B→Prop}{P:Prop} (k:∀a b,p0 a b→p1 a b→P) (h:∃a b,p0 a b∧p1 a b):P:=rEE (fun a0 a1 b2=>k a0 a1 b2.1 b2.2) h
theorem rAAAA {p0 p1 p2 p3 p4 P:Prop} (k:p0→p1→p2→p3→p4→P) (h:p0∧p1∧p2∧p3∧p4):P:=k h.1 h.2.1 h.2.2.1 h.2.2.2.1 h.2.2.2.2
theorem rAAAE {A:Type}{p0 p1 p2:Prop}{p3:A→Prop}{P:Prop} (k:p0→p1→p2→∀a,p3 a→P) (h:p0∧p1∧p2∧∃a,p3 a):P:=rE (fun a3 b4=>k h.1 h.2.1 h.2.2.1 a3 b4) h.2.2.2
theorem rAEAA {A:Type}{p0:Prop}{p1 p2 p3:A→Prop}{P:Prop} (k:p0→∀a,p1 a→p2 a→p3 a→P) (h:p0∧∃a,p1 a∧p2 a∧p3 a):P:=rE (fun a1 b2=>k h.1 a1 b2.1 b2.2.1 b2.2.2) h.2
theorem rAEEA {A B:Type}{p0:Prop}{p1 p2:A→B→Prop}{P:Prop} (k:p0→∀a b,p1 a b→p2 a b→P) (h:p0∧∃a b,p1 a b∧p2 a b):P:=rEE (fun a1 a2 b3=>k h.1 a1 a2 b3.1 b3.2) h.2
theorem rEAAA {A:Type}{p0 p1 p2 p3:A→Prop}{P:Prop} (k:∀a,p0 a→p1 a→p2 a→p3 a→P) (h:∃a,p0 a∧p1 a∧p2 a∧p3 a):P:=rE (fun a0 b1=>k a0 b1.1 b1.2.1 b1.2.2.1 b1.2.2.2) h
theorem rEAEA {A B:Type}{p0:A→Prop}{p1 p2:A→B→Prop}{P:Prop} (k:∀a,p0 a→∀b,p1 a b→p2 a b→P) (h:∃a,p0 a∧∃b,p1 a b∧p2 a b):P:=rE (fun a0 b1=>rE (fun a2 b3=>k a0 b1.1 a2 b3.1 b3.2) b1.2) h
theorem rEEAA {A B:Type}{p0 p1 p2:A→B→Prop}{P:Prop} (k:∀a b,p0 a b→p1 a b→p2 a b→P) (h:∃a b,p0 a b∧p1 a b∧p2 a b):P:=rEE (fun a0 a1 b2=>k a0 a1 b2.1 b2.2.1 b2.2.2) h
theorem rEEEA {A B C:Type}{p0 p1:A→B→C→Prop}{P:Prop} (k:∀a b c,p0 a b c→p1 a b c→P) (h:∃a b c,p0 a b c∧p1 a b c):P:=rEEE (fun a0 a1 a2 b3=>k a0 a1 a2 b3.1 b3.2) h
theorem rAAAEA {A:Type}{p0 p1 p2:Prop}{p3 p4:A→Prop}{P:Prop} (k:p0→p1→p2→∀a,p3 a→p4 a→P) (h:p0∧p1∧p2∧∃a,p3 a∧p4 a):P:=rE (fun a3 b4=>k h.1 h.2.1 h.2.2.1 a3 b4.1 b4.2) h.2.2.2
theorem rAEAAA {A:Type}{p0:Prop}{p1 p2 p3 p4:A→Prop}{P:Prop} (k:p0→∀a,p1 a→p2 a→p3 a→p4 a→P) (h:p0∧∃a,p1 a∧p2 a∧p3 a∧p4 a):P:=rE (fun a1 b2=>k h.1 a1 b2.1 b2.2.1 b2.2.2.1 b2.2.2.2) h.2
theorem rEAAAA {A:Type}{p0 p1 p2 p3 p4:A→Prop}{P:Prop} (k:∀a,p0 a→p1 a→p2 a→p3 a→p4 a→P) (h:∃a,p0 a∧p1 a∧p2 a∧p3 a∧p4 a):P:=rE (fun a0 b1=>k a0 b1.1 b1.2.1 b1.2.2.1 b1.2.2.2.1 b1.2.2.2.2) h
theorem rEAAAE {A B:Type}{p0 p1 p2:A→Prop}{p3:A→B→Prop}{P:Prop} (k:∀a,p0 a→p1 a→p2 a→∀b,p3 a b→P) (h:∃a,p0 a∧p1 a∧p2 a∧∃b,p3 a b):P:=rE (fun a0 b1=>rE (fun a4 b5=>k a0 b1.1 b1.2.1 b1.2.2.1 a4 b5) b1.2.2.2) h
theorem rEEAAA {A B:Type}{p0 p1 p2 p3:A→B→Prop}{P:Prop} (k:∀a b,p0 a b→p1 a b→p2 a b→p3 a b→P) (h:∃a b,p0 a b∧p1 a b∧p2 a b∧p3 a b):P:=rEE (fun a0 a1 b2=>k a0 a1 b2.1 b2.2.1 b2.2.2.1 b2.2.2.2) h
theorem rEEEAA {A B C:Type}{p0 p1 p2:A→B→C→Prop}{P:Prop} (k:∀a b c,p0 a b c→p1 a b c→p2 a b c→P) (h:∃a b c,p0 a b c∧p1 a b c∧p2 a b c):P:=rEEE (fun a0 a1 a2 b3=>k a0 a1 a2 b3.1 b3.2.1 b3.2.2) h
theorem rEEEEA {A B C D:Type}{p0 p1:A→B→C→D→Prop}{P:Prop} (k:∀a b c d,p0 a b c d→p1 a b c d→P) (h:∃a b c d,p0 a b c d∧p1 a b c d):P:=rEEEE (fun a0 a1 a2 a3 b4=>k a0 a1 a2 a3 b4.1 b4.2) h
theorem rAAAAAA {p0 p1 p2 p3 p4 p5 p6 P:Prop} (k:p0→p1→p2→p3→p4→p5→p6→P) (h:p0∧p1∧p2∧p3∧p4∧p5∧p6):P:=k h.1 h.2.1 h.2.2.1 h.2.2.2.1 h.2.2.2.2.1 h.2.2.2.2.2.1 h.2.2.2.2.2.2
theorem rAEEAAA {A B:Type}{p0:Prop}{p1 p2 p3 p4:A→B→Prop}{P:Prop} (k:p0→∀a b,p1 a b→p2 a b→p3 a b→p4 a b→P) (h:p0∧∃a b,p1 a b∧p2 a b∧p3 a b∧p4 a b):P:=rEE (fun a1 a2 b3=>k h.1 a1 a2 b3.1 b3.2.1 b3.2.2.1 b3.2.2.2) h.2
theorem rEAAAAA {A:Type}{p0 p1 p2 p3 p4 p5:A→Prop}{P:Prop} (k:∀a,p0 a→p1 a→p2 a→p3 a→p4 a→p5 a→P) (h:∃a,p0 a∧p1 a∧p2 a∧p3 a∧p4 a∧p5 a):P:=rE (fun a0 b1=>k a0 b1.1 b1.2.1 b1.2.2.1 b1.2.2.2.1 b1.2.2.2.2.1 b1.2.2.2.2.2) h
theorem rEEAAAA {A B:Type}{p0 p1 p2 p3 p4:A→B→Prop}{P:Prop} (k:∀a b,p0 a b→p1 a b→p2 a b→p3 a b→p4 a b→P) (h:∃a b,p0 a b∧p1 a b∧p2 a b∧p3 a b∧p4 a b):P:=rEE (fun a0 a1 b2=>k a0 a1 b2.1 b2.2.1 b2.2.2.1 b2.2.2.2.1 b2.2.2.2.2) h
theorem rEEEAAA {A B C:Type}{p0 p1 p2 p3:A→B→C→Prop}{P:Prop} (k:∀a b c,p0 a b c→p1 a b c→p2 a b c→p3 a b c→P) (h:∃a b c,p0 a b c∧p1 a b c∧p2 a b c∧p3 a b c):P:=rEEE (fun a0 a1 a2 b3=>k a0 a1 a2 b3.1 b3.2.1 b3.2.2.1 b3.2.2.2) h
theorem rEEEEAA {A B C D:Type}{p0 p1 p2:A→B→C→D→Prop}{P:Prop} (k:∀a b c d,p0 a b c d→p1 a b c d→p2 a b c d→P) (h:∃a b c d,p0 a b c d∧p1 a b c d∧p2 a b c d):P:=rEEEE (fun a0 a1 a2 a3 b4=>k a0 a1 a2 a3 b4.1 b4.2.1 b4.2.2) h
theorem rAEEAAAA {A B:Type}{p0:Prop}{p1 p2 p3 p4 p5:A→B→Prop}{P:Prop} (k:p0→∀a b,p1 a b→p2 a b→p3 a b→p4 a b→p5 a b→P) (h:p0∧∃a b,p1 a b∧p2 a b∧p3 a b∧p4 a b∧p5 a b):P:=rEE (fun a1 a2 b3=>k h.1 a1 a2 b3.1 b3.2.1 b3.2.2.1 b3.2.2.2.1 b3.2.2.2.2) h.2
theorem rEEAAAAA {A B:Type}{p0 p1 p2 p3 p4 p5:A→B→Prop}{P:Prop} (k:∀a b,p0 a b→p1 a b→p2 a b→p3 a b→p4 a b→p5 a b→P) (h:∃a b,p0 a b∧p1 a b∧p2 a b∧p3 a b∧p4 a b∧p5 a b):P:=rEE (fun a0 a1 b2=>k a0 a1 b2.1 b2.2.1 b2.2.2.1 b2.2.2.2.1 b2.2.2.2.2.1 b2.2.2.2.2.2) h
theorem rEEEAAAA {A B C:Type}{p0 p1 p2 p3 p4:A→B→C→Prop}{P:Prop} (k:∀a b c,p0 a b c→p1 a b c→p2 a b c→p3 a b c→p4 a b c→P) (h:∃a b c,p0 a b c∧p1 a b c∧p2 a b c∧p3 a b c∧p4 a b c):P:=rEEE (fun a0 a1 a2 b3=>k a0 a1 a2 b3.1 b3.2.1 b3.2.2.1 b3.2.2.2.1 b3.2.2.2.2) h
theorem rEEEEAAA {A B C D:Type}{p0 p1 p2 p3:A→B→C→D→Prop}{P:Prop} (k:∀a b c d,p0 a b c d→p1 a b c d→p2 a b c d→p3 a b c d→P) (h:∃a b c d,p0 a b c d∧p1 a b c d∧p2 a b c d∧p3 a b c d):P:=rEEEE (fun a0 a1 a2 a3 b4=>k a0 a1 a2 a3 b4.1 b4.2.1 b4.2.2.1 b4.2.2.2) h
theorem rEEEEEAA {A B C D E:Type}{p0 p1 p2:A→B→C→D→E→Prop}{P:Prop} (k:∀a b c d e,p0 a b c d e→p1 a b c d e→p2 a b c d e→P) (h:∃a b c d e,p0 a b c d e∧p1 a b c d e∧p2 a b c d e):P:=rEEEEE (fun a0 a1 a2 a3 a4 b5=>k a0 a1 a2 a3 a4 b5.1 b5.2.1 b5.2.2) h
theorem rAEEAAAAA {A B:Type}{p0:Prop}{p1 p2 p3 p4 p5 p6:A→B→Prop}{P:Prop} (k:p0→∀a b,p1 a b→p2 a b→p3 a b→p4 a b→p5 a b→p6 a b→P) (h:p0∧∃a b,p1 a b∧p2 a b∧p3 a b∧p4 a b∧p5 a b∧p6 a b):P:=rEE (fun a1 a2 b3=>k h.1 a1 a2 b3.1 b3.2.1 b3.2.2.1 b3.2.2.2.1 b3.2.2.2.2.1 b3.2.2.2.2.2) h.2
theorem rEEAAAAAA {A B:Type}{p0 p1 p2 p3 p4 p5 p6:A→B→Prop}{P:Prop} (k:∀a b,p0 a b→p1 a b→p2 a b→p3 a b→p4 a b→p5 a b→p6 a b→P) (h:∃a b,p0 a b∧p1 a b∧p2 a b∧p3 a b∧p4 a b∧p5 a b∧p6 a b):P:=rEE (fun a0 a1 b2=>k a0 a1 b2.1 b2.2.1 b2.2.2.1 b2.2.2.2.1 b2.2.2.2.2.1 b2.2.2.2.2.2.1 b2.2.2.2.2.2.2) h
theorem rEEEAAAAA {A B C:Type}{p0 p1 p2 p3 p4 p5:A→B→C→Prop}{P:Prop} (k:∀a b c,p0 a b c→p1 a b c→p2 a b c→p3 a b c→p4 a b c→p5 a b c→P) (h:∃a b c,p0 a b c∧p1 a b c∧p2 a b c∧p3 a b c∧p4 a b c∧p5 a b c):P:=rEEE (fun a0 a1 a2 b3=>k a0 a1 a2 b3.1 b3.2.1 b3.2.2.1 b3.2.2.2.1 b3.2.2.2.2.1 b3.2.2.2.2.2) h
theorem rEEEEAAAA {A B C D:Type}{p0 p1 p2 p3 p4:A→B→C→D→Prop}{P:Prop} (k:∀a b c d,p0 a b c d→p1 a b c d→p2 a b c d→p3 a b c d→p4 a b c d→P) (h:∃a b c d,p0 a b c d∧p1 a b c d∧p2 a b c d∧p3 a b c d∧p4 a b c d):P:=rEEEE (fun a0 a1 a2 a3 b4=>k a0 a1 a2 a3 b4.1 b4.2.1 b4.2.2.1 b4.2.2.2.1 b4.2.2.2.2) h
theorem rEEEEEAAA {A B C D E:Type}{p0 p1 p2 p3:A→B→C→D→E→Prop}{P:Prop} (k:∀a b c d e,p0 a b c d e→p1 a b c d e→p2 a b c d e→p3 a b c d e→P) (h:∃a b c d e,p0 a b c d e∧p1 a b c d e∧p2 a b c d e∧p3 a b c d e):P:=rEEEEE (fun a0 a1 a2 a3 a4 b5=>k a0 a1 a2 a3 a4 b5.1 b5.2.1 b5.2.2.1 b5.2.2.2) h
theorem rEEEEEEEA {A B C D E F G:Type}{p0 p1:A→B→C→D→E→F→G→Prop}{P:Prop} (k:∀a b c d e f g,p0 a b c d e f g→p1 a b c d e f g→P) (h:∃a b c d e f g,p0 a b c d e f g∧p1 a b c d e f g):P:=rEEEEEEE (fun a0 a1 a2 a3 a4 a5 a6 b7=>k a0 a1 a2 a3 a4 a5 a6 b7.1 b7.2) h
theorem rAAAAAAAAA {p0 p1 p2 p3 p4 p5 p6 p7 p8 p9 P:Prop} (k:p0→p1→p2→p3→p4→p5→p6→p7→p8→p9→P) (h:p0∧p1∧p2∧p3∧p4∧p5∧p6∧p7∧p8∧p9):P:=k h.1 h.2.1 h.2.2.1 h.2.2.2.1 h.2.2.2.2.1 h.2.2.2.2.2.1 h.2.2.2.2.2.2.1 h.2.2.2.2.2.2.2.1 h.2.2.2.2.2.2.2.2.1 h.2.2.2.2.2.2.2.2.2
theorem rAEEAAAAEE {A B C D:Type}{p0:Prop}{p1 p2 p3 p4:A→B→Prop}{p5:A→B→C→D→Prop}{P:Prop} (k:p0→∀a b,p1 a b→p2 a b→p3 a b→p4 a b→∀c d,p5 a b c d→P) (h:p0∧∃a b,p1 a b∧p2 a b∧p3 a b∧p4 a b∧∃c d,p5 a b c d):P:=rEE (fun a1 a2 b3=>rEE (fun a7 a8 b9=>k h.1 a1 a2 b3.1 b3.2.1 b3.2.2.1 b3.2.2.2.1 a7 a8 b9) b3.2.2.2.2) h.2
theorem rEEEAAAAEA {A B C D:Type}{p0 p1 p2 p3:A→B→C→Prop}{p4 p5:A→B→C→D→Prop}{P:Prop} (k:∀a b c,p0 a b c→p1 a b c→p2 a b c→p3 a b c→∀d,p4 a b c d→p5 a b c d→P) (h:∃a b c,p0 a b c∧p1 a b c∧p2 a b c∧p3 a b c∧∃d,p4 a b c d∧p5 a b c d):P:=rEEE (fun a0 a1 a2 b3=>rE (fun a7 b8=>k a0 a1 a2 b3.1 b3.2.1 b3.2.2.1 b3.2.2.2.1 a7 b8.1 b8.2) b3.2.2.2.2) h
theorem rEEEEAAAAA {A B C D:Type}{p0 p1 p2 p3 p4 p5:A→B→C→D→Prop}{P:Prop} (k:∀a b c d,p0 a b c d→p1 a b c d→p2 a b c d→p3 a b c d→p4 a b c d→p5 a b c d→P) (h:∃a b c d,p0 a b c d∧p1 a b c d∧p2 a b c d∧p3 a b c d∧p4 a b c d∧p5 a b c d):P:=rEEEE (fun a0 a1 a2 a3 b4=>k a0 a1 a2 a3 b4.1 b4.2.1 b4.2.2.1 b4.2.2.2.1 b4.2.2.2.2.1 b4.2.2.2.2.2) h
theorem rEEEEEAAAA {A B C D E:Type}{p0 p1 p2 p3 p4:A→B→C→D→E→Prop}{P:Prop} (k:∀a b c d e,p0 a b c d e→p1 a b c d e→p2 a b c d e→p3 a b c d e→p4 a b c d e→P) (h:∃a b c d e,p0 a b c d e∧p1 a b c d e∧p2 a b c d e∧p3 a b c d e∧p4 a b c d e):P:=rEEEEE (fun a0 a1 a2 a3 a4 b5=>k a0 a1 a2 a3 a4 b5.1 b5.2.1 b5.2.2.1 b5.2.2.2.1 b5.2.2.2.2) h
theorem rEEEEEEAAA {A B C D E F:Type}{p0 p1 p2 p3:A→B→C→D→E→F→Prop}{P:Prop} (k:∀a b c d e f,p0 a b c d e f→p1 a b c d e f→p2 a b c d e f→p3 a b c d e f→P) (h:∃a b c d e f,p0 a b c d e f∧p1 a b c d e f∧p2 a b c d e f∧p3 a b c d e f):P:=rEEEEEE (fun a0 a1 a2 a3 a4 a5 b6=>k a0 a1 a2 a3 a4 a5 b6.1 b6.2.1 b6.2.2.1 b6.2.2.2) h
theorem rAAEEEEAAAA {A B C D:Type}{p0 p1:Prop}{p2 p3 p4 p5 p6:A→B→C→D→Prop}{P:Prop} (k:p0→p1→∀a b c d,p2 a b c d→p3 a b c d→p4 a b c d→p5 a b c d→p6 a b c d→P) (h:p0∧p1∧∃a b c d,p2 a b c d∧p3 a b c d∧p4 a b c d∧p5 a b c d∧p6 a b c d):P:=rEEEE (fun a2 a3 a4 a5 b6=>k h.1 h.2.1 a2 a3 a4 a5 b6.1 b6.2.1 b6.2.2.1 b6.2.2.2.1 b6.2.2.2.2) h.2.2
theorem rEEEEAAAAAAA {A B C D:Type}{p0 p1 p2 p3 p4 p5 p6 p7:A→B→C→D→Prop}{P:Prop} (k:∀a b c d,p0 a b c d→p1 a b c d→p2 a b c d→p3 a b c d→p4 a b c d→p5 a b c d→p6 a b c d→p7 a b c d→P) (h:∃a b c d,p0 a b c d∧p1 a b c d∧p2 a b c d∧p3 a b c d∧p4 a b c d∧p5 a b c d∧p6 a b c d∧p7 a b c d):P:=rEEEE (fun a0 a1 a2 a3 b4=>k a0 a1 a2 a3 b4.1 b4.2.1 b4.2.2.1 b4.2.2.2.1 b4.2.2.2.2.1 b4.2.2.2.2.2.1 b4.2.2.2.2.2.2.1 b4.2.2.2.2.2.2.2) h
theorem rEEEEAAAAAAAA {A B C D:Type}{p0 p1 p2 p3 p4 p5 p6 p7 p8:A→B→C→D→Prop}{P:Prop} (k:∀a b c d,p0 a b c d→p1 a b c d→p2 a b c d→p3 a b c d→p4 a b c d→p5 a b c d→p6 a b c d→p7 a b c d→p8 a b c d→P) (h:∃a b c d,p0 a b c d∧p1 a b c d∧p2 a b c d∧p3 a b c d∧p4 a b c d∧p5 a b c d∧p6 a b c d∧p7 a b c d∧p8 a b c d):P:=rEEEE (fun a0 a1 a2 a3 b4=>k a0 a1 a2 a3 b4.1 b4.2.1 b4.2.2.1 b4.2.2.2.1 b4.2.2.2.2.1 b4.2.2.2.2.2.1 b4.2.2.2.2.2.2.1 b4.2.2.2.2.2.2.2.1 b4.2.2.2.2.2.2.2.2) h
theorem rEEEEEAAAAAAA {A B C D E:Type}{p0 p1 p2 p3 p4 p5 p6 p7:A→B→C→D→E→Prop}{P:Prop} (k:∀a b c d e,p0 a b c d e→p1 a b c d e→p2 a b c d e→p3 a b c d e→p4 a b c d e→p5 a b c d e→p6 a b c d e→p7 a b c d e→P) (h:∃a b c d e,p0 a b c d e∧p1 a b c d e∧p2 a b c d e∧p3 a b c d e∧p4 a b c d e∧p5 a b c d e∧p6 a b c d e∧p7 a b c d e):P:=rEEEEE (fun a0 a1 a2 a3 a4 b5=>k a0 a1 a2 a3 a4 b5.1 b5.2.1 b5.2.2.1 b5.2.2.2.1 b5.2.2.2.2.1 b5.2.2.2.2.2.1 b5.2.2.2.2.2.2.1 b5.2.2.2.2.2.2.2) h
theorem rEEEEEEEEAAAA {A B C D E F G I:Type}{p0 p1 p2 p3 p4:A→B→C→D→E→F→G→I→Prop}{P:Prop} (k:∀a b c d e f g i,p0 a b c d e f g i→p1 a b c d e f g i→p2 a b c d e f g i→p3 a b c d e f g i→p4 a b c d e f g i→P) (h:∃a b c d e f g i,p0 a b c d e f g i∧p1 a b c d e f g i∧p2 a b c d e f g i∧p3 a b c d e f g i∧p4 a b c d e f g i):P:=rEEEEEEEE (fun a0 a1 a2 a3 a4 a5 a6 a7 b8=>k a0 a1 a2 a3 a4 a5 a6 a7 b8.1 b8.2.1 b8.2.2.1 b8.2.2.2.1 b8.2.2.2.2) h
theorem rEEEEEEEEEEEEEEEEEA {A B C D E F G I J L M N O Q R S T:Type}{p0 p1:A→B→C→D→E→F→G→I→J→L→M→N→O→Q→R→S→T→Prop}{P:Prop} (k:∀a b c d e f g i j l m n o q r s t,p0 a b c d e f g i j l m n o q r s t→p1 a b c d e f g i j l m n o q r s t→P) (h:∃a b c d e f g i j l m n o q r s t,p0 a b c d e f g i j l m n o q r s t∧p1 a b c d e f g i j l m n o q r s t):P:=rEEEEEEEEEEEEEEEEE (fun a0 a1 a2 a3 a4 a5 a6 a7 a8 a9 a10 a11 a12 a13 a14 a15 a16 b17=>k a0 a1 a2 a3 a4 a5 a6 a7 a8 a9 a10 a11 a12 a13 a14 a15 a16 b17.1 b17.2) h
theorem rEEEEEEEEEEEEEEEEEAAA {A B C D E F G I J L M N O Q R S T:Type}{p0 p1 p2 p3:A→B→C→D→E→F→G→I→J→L→M→N→O→Q→R→S→T→Prop}{P:Prop} (k:∀a b c d e f g i j l m n o q r s t,p0 a b c d e f g i j l m n o q r s t→p1 a b c d e f g i j l m n o q r s t→p2 a b c d e f g i j l m n o q r s t→p3 a b c d e f g i j l m n o q r s t→P) (h:∃a b c d e f g i j l m n o q r s t,p0 a b c d e f g i j l m n o q r s t∧p1 a b c d e f g i j l m n o q r s t∧p2 a b c d e f g i j l m n o q r s t∧p3 a b c d e f g i j l m n o q r s t):P:=rEEEEEEEEEEEEEEEEE (fun a0 a1 a2 a3 a4 a5 a6 a7 a8 a9 a10 a11 a12 a13 a14 a15 a16 b17=>k a0 a1 a2 a3 a4 a5 a6 a7 a8 a9 a10 a11 a12 a13 a14 a15 a16 b17.1 b17.2.1 b17.2.2.1 b17.2.2.2) h
end Mini.Internal
namespace Mini.Internal.Lin
theorem byC {p:Prop} (h:¬ p→False):p:=Classical.byContradiction h
inductive T where
 | v (i:Nat)
 | k (n:Nat)
 | a (x y:T)
 | m (n:Nat) (x:T)
 | w (x:T) (n:Nat)
inductive Z where
 | v (i:Nat)
 | k (c:Int)
 | n (t:T)
 | a (x y:Z)
 | s (x y:Z)
 | g (x:Z)
 | m (c:Int) (x:Z)
 | w (x:Z) (c:Int)
noncomputable abbrev T.v0:T:=.v 0
noncomputable abbrev T.v1:T:=.v 1
noncomputable abbrev T.v2:T:=.v 2
noncomputable abbrev T.v3:T:=.v 3
noncomputable abbrev T.v4:T:=.v 4
noncomputable abbrev T.v5:T:=.v 5
noncomputable abbrev T.v6:T:=.v 6
noncomputable abbrev T.v7:T:=.v 7
noncomputable abbrev T.v8:T:=.v 8
noncomputable abbrev T.v9:T:=.v 9
noncomputable abbrev Z.v0:Z:=.v 0
noncomputable abbrev Z.v1:Z:=.v 1
noncomputable abbrev Z.v2:Z:=.v 2
noncomputable abbrev Z.v3:Z:=.v 3
noncomputable abbrev Z.v4:Z:=.v 4
noncomputable abbrev Z.v5:Z:=.v 5
noncomputable abbrev Z.v6:Z:=.v 6
noncomputable abbrev Z.v7:Z:=.v 7
noncomputable abbrev Z.v8:Z:=.v 8
noncomputable abbrev Z.v9:Z:=.v 9
noncomputable abbrev T.k0:T:=.k 0
noncomputable abbrev T.k1:T:=.k 1
noncomputable abbrev Z.k0:Z:=.k 0
noncomputable abbrev Z.k1:Z:=.k 1
inductive F where
 | le (x y:T)
 | lt (x y:T)
 | eq (x y:T)
 | zle (x y:Z)
 | zlt (x y:Z)
 | zeq (x y:Z)
 | no (f:F)
 | an (f g:F)
 | or (f g:F)
 | ff
noncomputable abbrev F.sb (d a b:T):F:=.or (.an (.le b a) (.eq (.a d b) a)) (.an (.le a b) (.eq d .k0))
noncomputable abbrev F.mi (m a b:T):F:=.or (.an (.le a b) (.eq m a)) (.an (.le b a) (.eq m b))
noncomputable abbrev F.mx (m a b:T):F:=.or (.an (.le a b) (.eq m b)) (.an (.le b a) (.eq m a))
noncomputable abbrev F.nt (n:T) (x:Z):F:=.or (.an (.zle .k0 x) (.zeq (.n n) x)) (.an (.zle x .k0) (.eq n .k0))
noncomputable def at_ {α:Type} (d:α):List α→Nat→α
 | [],_=>d
 | x::_,0=>x
 | _::r,i + 1=>at_ d r i
noncomputable def T.den (ρ:List Nat):T→Nat
 | .v i=>at_ 0 ρ i
 | .k n=>n
 | .a x y=>x.den ρ + y.den ρ
 | .m n x=>n * x.den ρ
 | .w x n=>x.den ρ * n
noncomputable def Z.den (ρ:List Nat) (ζ:List Int):Z→Int
 | .v i=>at_ 0 ζ i
 | .k c=>c
 | .n t=>(t.den ρ:Nat)
 | .a x y=>x.den ρ ζ + y.den ρ ζ
 | .s x y=>x.den ρ ζ - y.den ρ ζ
 | .g x=>- x.den ρ ζ
 | .m c x=>c * x.den ρ ζ
 | .w x c=>x.den ρ ζ * c
noncomputable def F.den (ρ:List Nat) (ζ:List Int):F→Prop
 | .le x y=>x.den ρ≤y.den ρ
 | .lt x y=>x.den ρ < y.den ρ
 | .eq x y=>x.den ρ=y.den ρ
 | .zle x y=>x.den ρ ζ≤y.den ρ ζ
 | .zlt x y=>x.den ρ ζ < y.den ρ ζ
 | .zeq x y=>x.den ρ ζ=y.den ρ ζ
 | .no f=>¬ f.den ρ ζ
 | .an f g=>f.den ρ ζ∧g.den ρ ζ
 | .or f g=>f.den ρ ζ∨g.den ρ ζ
 | .ff=>False
structure P where
 c:Int
 n:List Int
 z:List Int
noncomputable def addL:List Int→List Int→List Int
 | [],l=>l
 | l,[]=>l
 | x::r,y::s=>(x + y)::addL r s
noncomputable def mulL (c:Int):List Int→List Int
 | []=>[]
 | x::r=>(c * x)::mulL c r
noncomputable def one:Nat→List Int
 | 0=>[1]
 | i + 1=>0::one i
noncomputable def dotN:List Int→List Nat→Int
 | [],_=>0
 | _::_,[]=>0
 | x::r,y::s=>x * (y:Int) + dotN r s
noncomputable def dotZ:List Int→List Int→Int
 | [],_=>0
 | _::_,[]=>0
 | x::r,y::s=>x * y + dotZ r s
noncomputable def P.ev (ρ:List Nat) (ζ:List Int) (p:P):Int:=p.c + dotN p.n ρ + dotZ p.z ζ
noncomputable def P.add (p q:P):P:=⟨p.c + q.c,addL p.n q.n,addL p.z q.z⟩
noncomputable def P.mul (c:Int) (p:P):P:=⟨c * p.c,mulL c p.n,mulL c p.z⟩
noncomputable def T.pol:T→P
 | .v i=>⟨0,one i,[]⟩
 | .k n=>⟨n,[],[]⟩
 | .a x y=>x.pol.add y.pol
 | .m n x=>x.pol.mul n
 | .w x n=>x.pol.mul n
noncomputable def Z.pol:Z→P
 | .v i=>⟨0,[],one i⟩
 | .k c=>⟨c,[],[]⟩
 | .n t=>t.pol
 | .a x y=>x.pol.add y.pol
 | .s x y=>x.pol.add (y.pol.mul (-1))
 | .g x=>x.pol.mul (-1)
 | .m c x=>x.pol.mul c
 | .w x c=>x.pol.mul c
theorem ac4 (a b c d:Int):a + b + (c + d)=a + c + (b + d):=by lia
theorem dotN_add:∀(a b:List Int) (ρ:List Nat),dotN (addL a b) ρ=dotN a ρ + dotN b ρ
 | [],b,ρ=>(Int.zero_add _).symm
 | x::a,[],ρ=>(Int.add_zero _).symm
 | x::a,y::b,[]=>rfl
 | x::a,y::b,r::ρ=>by
  show (x + y) * (r:Int) + dotN (addL a b) ρ=x * r + dotN a ρ + (y * r + dotN b ρ)
  rw [dotN_add a b ρ,Int.add_mul,ac4]
theorem dotZ_add:∀(a b ζ:List Int),dotZ (addL a b) ζ=dotZ a ζ + dotZ b ζ
 | [],b,ρ=>(Int.zero_add _).symm
 | x::a,[],ρ=>(Int.add_zero _).symm
 | x::a,y::b,[]=>rfl
 | x::a,y::b,r::ρ=>by
  show (x + y) * r + dotZ (addL a b) ρ=x * r + dotZ a ρ + (y * r + dotZ b ρ)
  rw [dotZ_add a b ρ,Int.add_mul,ac4]
theorem dotN_mul (c:Int):∀(a:List Int) (ρ:List Nat),dotN (mulL c a) ρ=c * dotN a ρ
 | [],ρ=>(Int.mul_zero c).symm
 | x::a,[]=>(Int.mul_zero c).symm
 | x::a,r::ρ=>by
  show c * x * (r:Int) + dotN (mulL c a) ρ=c * (x * r + dotN a ρ)
  rw [dotN_mul c a ρ,Int.mul_add,Int.mul_assoc]
theorem dotZ_mul (c:Int):∀(a ζ:List Int),dotZ (mulL c a) ζ=c * dotZ a ζ
 | [],ρ=>(Int.mul_zero c).symm
 | x::a,[]=>(Int.mul_zero c).symm
 | x::a,r::ρ=>by
  show c * x * r + dotZ (mulL c a) ρ=c * (x * r + dotZ a ρ)
  rw [dotZ_mul c a ρ,Int.mul_add,Int.mul_assoc]
theorem one1 (x y:Int) (h:y=0):1 * x + y=x:=by rw [h,Int.one_mul,Int.add_zero]
theorem dotN_one:∀(i:Nat) (ρ:List Nat),dotN (one i) ρ=(at_ 0 ρ i:Nat)
 | i,[]=>by cases i <;> rfl
 | 0,r::ρ=>one1 (r:Int) (dotN [] ρ) rfl
 | i + 1,r::ρ=>by
  show 0 * (r:Int) + dotN (one i) ρ=(at_ 0 ρ i:Nat)
  rw [dotN_one i ρ,Int.zero_mul,Int.zero_add]
theorem dotZ_one:∀(i:Nat) (ζ:List Int),dotZ (one i) ζ=at_ 0 ζ i
 | i,[]=>by cases i <;> rfl
 | 0,r::ρ=>one1 r (dotZ [] ρ) rfl
 | i + 1,r::ρ=>by
  show 0 * r + dotZ (one i) ρ=at_ 0 ρ i
  rw [dotZ_one i ρ,Int.zero_mul,Int.zero_add]
section
variable {ρ:List Nat}{ζ:List Int}
theorem P.ev_add (p q:P):(p.add q).ev ρ ζ=p.ev ρ ζ + q.ev ρ ζ:=by
 show p.c + q.c + dotN (addL p.n q.n) ρ + dotZ (addL p.z q.z) ζ=p.c + dotN p.n ρ + dotZ p.z ζ + (q.c + dotN q.n ρ + dotZ q.z ζ)
 rw [dotN_add,dotZ_add,ac4 p.c q.c,ac4 (p.c + dotN p.n ρ)]
theorem P.ev_mul (c:Int) (p:P):(p.mul c).ev ρ ζ=c * p.ev ρ ζ:=by
 show c * p.c + dotN (mulL c p.n) ρ + dotZ (mulL c p.z) ζ=c * (p.c + dotN p.n ρ + dotZ p.z ζ)
 rw [dotN_mul,dotZ_mul,Int.mul_add,Int.mul_add]
theorem T.ev_pol:∀t:T,t.pol.ev ρ ζ=(t.den ρ:Nat)
 | .v i=>by
  show 0 + dotN (one i) ρ + 0=(at_ 0 ρ i:Nat)
  rw [dotN_one,Int.add_zero,Int.zero_add]
 | .k n=>by
  show (n:Int) + 0 + 0=n
  rw [Int.add_zero,Int.add_zero]
 | .a x y=>(P.ev_add _ _).trans ((congr (congrArg HAdd.hAdd (T.ev_pol x)) (T.ev_pol y)).trans (Int.natCast_add _ _).symm)
 | .m n x=>(P.ev_mul _ _).trans ((congrArg _ (T.ev_pol x)).trans (Int.natCast_mul _ _).symm)
 | .w x n=>(P.ev_mul _ _).trans ((congrArg _ (T.ev_pol x)).trans ((Int.mul_comm _ _).trans (Int.natCast_mul _ _).symm))
theorem Z.ev_pol:∀t:Z,t.pol.ev ρ ζ=t.den ρ ζ
 | .v i=>by
  show 0 + 0 + dotZ (one i) ζ=at_ 0 ζ i
  rw [dotZ_one,Int.add_zero,Int.zero_add]
 | .k c=>by
  show c + 0 + 0=c
  rw [Int.add_zero,Int.add_zero]
 | .n t=>T.ev_pol t
 | .a x y=>(P.ev_add _ _).trans (congr (congrArg HAdd.hAdd (Z.ev_pol x)) (Z.ev_pol y))
 | .s x y=>by
  show (x.pol.add (y.pol.mul (-1))).ev ρ ζ=x.den ρ ζ - y.den ρ ζ
  rw [P.ev_add,P.ev_mul,Z.ev_pol x,Z.ev_pol y];lia
 | .g x=>by
  show (x.pol.mul (-1)).ev ρ ζ = - x.den ρ ζ
  rw [P.ev_mul,Z.ev_pol x];lia
 | .m c x=>(P.ev_mul _ _).trans (congrArg _ (Z.ev_pol x))
 | .w x c=>(P.ev_mul _ _).trans ((congrArg _ (Z.ev_pol x)).trans (Int.mul_comm _ _))
end
inductive Ct where
 | l (cs:List Nat)
 | s (a b:Ct)
noncomputable def dig:Nat→Nat→List Nat→List Nat
 | 0,_,r=>r
 | f+1,n,r=>bif Nat.ble n 1 then r else dig f (n/10) (n%10::r)
noncomputable abbrev Ct.d (n:Nat):Ct:=.l (dig 40 n [])
noncomputable def sub1 (p q:P) (c:Int):P:=(p.add (q.mul (-1))).add ⟨c,[],[]⟩
theorem ev_sub1 {ρ:List Nat}{ζ:List Int} (p q:P) (c:Int):(sub1 p q c).ev ρ ζ=p.ev ρ ζ - q.ev ρ ζ + c:=by
 have h:P.ev ρ ζ ⟨c,[],[]⟩=c:=(Int.add_zero (c + 0)).trans (Int.add_zero c)
 rw [sub1,P.ev_add,P.ev_add,P.ev_mul,h];lia
noncomputable def comb:List Nat→List P→P
 | [],_=>⟨0,[],[]⟩
 | _::_,[]=>⟨0,[],[]⟩
 | c::cs,p::ps=>(p.mul (c:Nat)).add (comb cs ps)
noncomputable def allNon:List Int→Bool
 | []=>true
 | x::r=>(0≤x:Bool) && allNon r
noncomputable def allZero:List Int→Bool
 | []=>true
 | x::r=>(x == 0) && allZero r
noncomputable def P.bad (p:P):Bool:=decide (0 < p.c) && allNon p.n && allZero p.z
theorem comb_le {ρ:List Nat}{ζ:List Int}:∀(cs:List Nat) (ps:List P),(∀p∈ps,p.ev ρ ζ≤0)→(comb cs ps).ev ρ ζ≤0
 | [],_,_=>Int.le_refl 0
 | _::_,[],_=>Int.le_refl 0
 | c::cs,p::ps,h=>by
  have h1:=h p List.mem_cons_self
  have h2:=comb_le cs ps fun q hq=>h q (List.mem_cons_of_mem _ hq)
  show ((p.mul (c:Nat)).add (comb cs ps)).ev ρ ζ≤0
  rw [P.ev_add,P.ev_mul]
  have:=Int.mul_le_mul_of_nonneg_left h1 (Int.natCast_nonneg c)
  lia
theorem allNon_dot:∀(l:List Int) (ρ:List Nat),allNon l=true→0≤dotN l ρ
 | [],_,_=>Int.le_refl _
 | x::l,[],_=>Int.le_refl _
 | x::l,r::ρ,h=>by
  have h:(decide (0≤x) && allNon l)=true:=h
  rw [Bool.and_eq_true] at h
  exact Int.add_nonneg (Int.mul_nonneg (of_decide_eq_true h.1) (Int.natCast_nonneg r)) (allNon_dot l ρ h.2)
theorem allZero_dot:∀(l ζ:List Int),allZero l=true→dotZ l ζ=0
 | [],_,_=>rfl
 | x::l,[],_=>rfl
 | x::l,r::ρ,h=>by
  have h:(x == 0 && allZero l)=true:=h
  rw [Bool.and_eq_true] at h
  show x * r + dotZ l ρ=0
  rw [beq_iff_eq.mp h.1,allZero_dot l ρ h.2,Int.zero_mul];rfl
theorem bad_pos {ρ:List Nat}{ζ:List Int}{p:P} (h:p.bad=true):0 < p.ev ρ ζ:=by
 have h:(decide (0 < p.c) && allNon p.n && allZero p.z)=true:=h
 rw [Bool.and_eq_true,Bool.and_eq_true] at h
 have h1:=allNon_dot p.n ρ h.1.2
 show 0 < p.c + dotN p.n ρ + dotZ p.z ζ
 rw [allZero_dot p.z ζ h.2,Int.add_zero]
 exact Int.lt_of_lt_of_le (of_decide_eq_true h.1.1) (Int.le_add_of_nonneg_right h1)
inductive W where
 | ps (l:List P)
 | two (f:F) (b:Bool) (g:F) (c:Bool)
 | alt (f:F) (b:Bool) (g:F) (c:Bool)
 | done
 | not (f:F) (b:Bool)
noncomputable def F.step:F→Bool→W
 | .le x y,true=>.ps [sub1 x.pol y.pol 0]
 | .le x y,false=>.ps [sub1 y.pol x.pol 1]
 | .lt x y,true=>.ps [sub1 x.pol y.pol 1]
 | .lt x y,false=>.ps [sub1 y.pol x.pol 0]
 | .eq x y,true=>.ps [sub1 x.pol y.pol 0,sub1 y.pol x.pol 0]
 | .eq x y,false=>.alt (.lt x y) true (.lt y x) true
 | .zle x y,true=>.ps [sub1 x.pol y.pol 0]
 | .zle x y,false=>.ps [sub1 y.pol x.pol 1]
 | .zlt x y,true=>.ps [sub1 x.pol y.pol 1]
 | .zlt x y,false=>.ps [sub1 y.pol x.pol 0]
 | .zeq x y,true=>.ps [sub1 x.pol y.pol 0,sub1 y.pol x.pol 0]
 | .zeq x y,false=>.alt (.zlt x y) true (.zlt y x) true
 | .no f,b=>.not f (!b)
 | .an f g,true=>.two f true g true
 | .an f g,false=>.alt f false g false
 | .or f g,true=>.alt f true g true
 | .or f g,false=>.two f false g false
 | .ff,true=>.done
 | .ff,false=>.ps []
noncomputable def sg (ρ:List Nat) (ζ:List Int) (f:F) (b:Bool):Prop:=if b then f.den ρ ζ else ¬ f.den ρ ζ
noncomputable def chk:Nat→List P→List (F×Bool)→Ct→Bool
 | 0,_,_,_=>false
 | _ + 1,ps,[],.l cs=>(comb cs ps).bad
 | _ + 1,_,[],.s _ _=>false
 | n + 1,ps,(f,b)::fs,ct=>match f.step b with
  | .ps l=>chk n (ps++l) fs ct
  | .two f b g c=>chk n ps ((f,b)::(g,c)::fs) ct
  | .alt f b g c=>match ct with
   | .s x y=>chk n ps ((f,b)::fs) x && chk n ps ((g,c)::fs) y
   | .l _=>false
  | .done=>true
  | .not f b=>chk n ps ((f,b)::fs) ct
theorem chk_sound {ρ:List Nat}{ζ:List Int}:∀(n:Nat) (ps:List P) (fs:List (F×Bool)) (ct:Ct),chk n ps fs ct=true→(∀p∈ps,p.ev ρ ζ≤0)→(∀f∈fs,sg ρ ζ f.1 f.2)→False
 | 0,_,_,_,h,_,_=>by cases h
 | n + 1,ps,[],.l cs,h,hp,_=>by
  have h1:=comb_le cs ps hp
  have h2:=bad_pos (ρ:=ρ) (ζ:=ζ) h
  lia
 | n + 1,ps,[],.s _ _,h,_,_=>by cases h
 | n + 1,ps,(f,b)::fs,ct,h,hp,hf=>by
  have hf0:=hf (f,b) List.mem_cons_self
  have hfr:∀g∈fs,sg ρ ζ g.1 g.2:=fun g hg=>hf g (List.mem_cons_of_mem _ hg)
  have cons2:∀{g:F}{c:Bool},sg ρ ζ g c→∀x∈(g,c)::fs,sg ρ ζ x.1 x.2:=fun hg x hx=>by
   rcases List.mem_cons.mp hx with rfl | hx
   ·exact hg
   ·exact hfr x hx
  have app:∀{l:List P},(∀p∈l,p.ev ρ ζ≤0)→∀p∈ps++l,p.ev ρ ζ≤0:=fun hl p hm=>by
   rcases List.mem_append.mp hm with h | h
   ·exact hp p h
   ·exact hl p h
  have o1:∀{p q:P}{c:Int},p.ev ρ ζ - q.ev ρ ζ + c≤0→∀x∈[sub1 p q c],x.ev ρ ζ≤0:=fun hq x hx=>by
   rw [List.mem_singleton.mp hx,ev_sub1];exact hq
  cases f with
  | le x y=>
   cases b with
   | true=>exact chk_sound n _ fs ct h (app (o1 (by have:x.den ρ≤y.den ρ:=hf0;simp only [T.ev_pol];lia))) hfr
   | false=>exact chk_sound n _ fs ct h (app (o1 (by have:¬ x.den ρ≤y.den ρ:=hf0;simp only [T.ev_pol];lia))) hfr
  | lt x y=>
   cases b with
   | true=>exact chk_sound n _ fs ct h (app (o1 (by have:x.den ρ < y.den ρ:=hf0;simp only [T.ev_pol];lia))) hfr
   | false=>exact chk_sound n _ fs ct h (app (o1 (by have:¬ x.den ρ < y.den ρ:=hf0;simp only [T.ev_pol];lia))) hfr
  | eq x y=>
   cases b with
   | true=>
    have hq:x.den ρ=y.den ρ:=hf0
    exact chk_sound n _ fs ct h (app fun p hm=>by
     rcases List.mem_cons.mp hm with rfl | hm
     ·rw [ev_sub1];simp only [T.ev_pol];lia
     ·rw [List.mem_singleton.mp hm,ev_sub1];simp only [T.ev_pol];lia) hfr
   | false=>
    have hq:¬ x.den ρ=y.den ρ:=hf0
    cases ct with
    | l _=>cases h
    | s a c=>
     have h:=Bool.and_eq_true_iff.mp h
     rcases Nat.lt_or_gt_of_ne hq with h0 | h0
     ·exact chk_sound n _ _ a h.1 hp (cons2 (show sg ρ ζ (.lt x y) true from h0))
     ·exact chk_sound n _ _ c h.2 hp (cons2 (show sg ρ ζ (.lt y x) true from h0))
  | zle x y=>
   cases b with
   | true=>exact chk_sound n _ fs ct h (app (o1 (by have:x.den ρ ζ≤y.den ρ ζ:=hf0;simp only [Z.ev_pol];lia))) hfr
   | false=>exact chk_sound n _ fs ct h (app (o1 (by have:¬ x.den ρ ζ≤y.den ρ ζ:=hf0;simp only [Z.ev_pol];lia))) hfr
  | zlt x y=>
   cases b with
   | true=>exact chk_sound n _ fs ct h (app (o1 (by have:x.den ρ ζ < y.den ρ ζ:=hf0;simp only [Z.ev_pol];lia))) hfr
   | false=>exact chk_sound n _ fs ct h (app (o1 (by have:¬ x.den ρ ζ < y.den ρ ζ:=hf0;simp only [Z.ev_pol];lia))) hfr
  | zeq x y=>
   cases b with
   | true=>
    have hq:x.den ρ ζ=y.den ρ ζ:=hf0
    exact chk_sound n _ fs ct h (app fun p hm=>by
     rcases List.mem_cons.mp hm with rfl | hm
     ·rw [ev_sub1];simp only [Z.ev_pol];lia
     ·rw [List.mem_singleton.mp hm,ev_sub1];simp only [Z.ev_pol];lia) hfr
   | false=>
    have hq:¬ x.den ρ ζ=y.den ρ ζ:=hf0
    cases ct with
    | l _=>cases h
    | s a c=>
     have h:=Bool.and_eq_true_iff.mp h
     rcases Int.lt_or_gt_of_ne hq with h0 | h0
     ·exact chk_sound n _ _ a h.1 hp (cons2 (show sg ρ ζ (.zlt x y) true from h0))
     ·exact chk_sound n _ _ c h.2 hp (cons2 (show sg ρ ζ (.zlt y x) true from h0))
  | no f=>
   refine chk_sound n _ _ ct h hp (cons2 ?_)
   cases b with
   | true=>exact hf0
   | false=>exact Classical.not_not.mp hf0
  | an f g=>
   cases b with
   | true=>
    have hq:f.den ρ ζ∧g.den ρ ζ:=hf0
    refine chk_sound n _ _ ct h hp fun x hx=>?_
    rcases List.mem_cons.mp hx with rfl | hx
    ·exact hq.1
    ·exact cons2 (show sg ρ ζ g true from hq.2) x hx
   | false=>
    have hq:¬ (f.den ρ ζ∧g.den ρ ζ):=hf0
    cases ct with
    | l _=>cases h
    | s a c=>
     have h:=Bool.and_eq_true_iff.mp h
     rcases Classical.not_and_iff_not_or_not.mp hq with h0 | h0
     ·exact chk_sound n _ _ a h.1 hp (cons2 (show sg ρ ζ f false from h0))
     ·exact chk_sound n _ _ c h.2 hp (cons2 (show sg ρ ζ g false from h0))
  | or f g=>
   cases b with
   | true=>
    have hq:f.den ρ ζ∨g.den ρ ζ:=hf0
    cases ct with
    | l _=>cases h
    | s a c=>
     have h:=Bool.and_eq_true_iff.mp h
     rcases hq with h0 | h0
     ·exact chk_sound n _ _ a h.1 hp (cons2 (show sg ρ ζ f true from h0))
     ·exact chk_sound n _ _ c h.2 hp (cons2 (show sg ρ ζ g true from h0))
   | false=>
    have hq:¬ (f.den ρ ζ∨g.den ρ ζ):=hf0
    have hq:=not_or.mp hq
    refine chk_sound n _ _ ct h hp fun x hx=>?_
    rcases List.mem_cons.mp hx with rfl | hx
    ·exact hq.1
    ·exact cons2 (show sg ρ ζ g false from hq.2) x hx
  | ff=>
   cases b with
   | true=>exact hf0
   | false=>exact chk_sound n _ fs ct h (app fun p hm=>by cases hm) hfr
noncomputable def imp (ρ:List Nat) (ζ:List Int) (g:F):List F→Prop
 | []=>g.den ρ ζ
 | h::hs=>h.den ρ ζ→imp ρ ζ g hs
theorem imp_of {ρ:List Nat}{ζ:List Int}{g:F}:∀(hs:List F),((∀h∈hs,h.den ρ ζ)→g.den ρ ζ)→imp ρ ζ g hs
 | [],k=>k fun u_ h=>nomatch h
 | h::hs,k=>fun x=>imp_of hs fun y=>k fun z hz=>by
  rcases List.mem_cons.mp hz with rfl | hz
  ·exact x
  ·exact y z hz
theorem lin (hs:List F) (g:F) (ct:Ct) (ok:chk 400 [] ((g,false)::hs.map fun h=>(h,true)) ct=true) (ρ:List Nat) (ζ:List Int):imp ρ ζ g hs :=
 imp_of hs fun h=>Classical.byContradiction fun hn=>chk_sound 400 [] _ ct ok (fun u_ h=>nomatch h) fun f hf=>by
  rcases List.mem_cons.mp hf with rfl | hf
  ·exact hn
  ·refine byC fun hX=>?_;obtain ⟨x,hx,rfl⟩:=List.mem_map.mp hf;refine hX ?_;clear hX
   exact h x hx
theorem sub_ax (a b:Nat):(b≤a∧a - b + b=a)∨(a≤b∧a - b=0):=by
 rcases Nat.le_total b a with h | h
 ·exact .inl ⟨h,Nat.sub_add_cancel h⟩
 ·exact .inr ⟨h,Nat.sub_eq_zero_of_le h⟩
theorem div_ax (a n:Nat) (h:0 < n):n * (a / n)≤a∧a < n * (a / n) + n:=⟨Nat.mul_div_le a n,Nat.lt_mul_div_succ a h⟩
theorem nat_ax (x:Int):(0≤x∧(x.toNat:Int)=x)∨(x≤0∧x.toNat=0):=by
 rcases Int.le_total 0 x with h | h
 ·exact .inl ⟨h,Int.toNat_of_nonneg h⟩
 ·exact .inr ⟨h,Int.toNat_of_nonpos h⟩
theorem min_ax (a b:Nat):(a≤b∧min a b=a)∨(b≤a∧min a b=b):=by
 rcases Nat.le_total a b with h | h
 ·exact .inl ⟨h,Nat.min_eq_left h⟩
 ·exact .inr ⟨h,Nat.min_eq_right h⟩
theorem max_ax (a b:Nat):(a≤b∧max a b=b)∨(b≤a∧max a b=a):=by
 rcases Nat.le_total a b with h | h
 ·exact .inl ⟨h,Nat.max_eq_right h⟩
 ·exact .inr ⟨h,Nat.max_eq_left h⟩
theorem ln1 (hs:List F) (g:F) (ct:Ct) (ok:chk 400 [] ((g,false)::hs.map fun h=>(h,true)) ct=true) {a:Nat}:imp [a] [] g hs:=lin hs g ct ok [a] []
theorem ln2 (hs:List F) (g:F) (ct:Ct) (ok:chk 400 [] ((g,false)::hs.map fun h=>(h,true)) ct=true) {a b:Nat}:imp [a,b] [] g hs:=lin hs g ct ok [a,b] []
theorem ln3 (hs:List F) (g:F) (ct:Ct) (ok:chk 400 [] ((g,false)::hs.map fun h=>(h,true)) ct=true) {a b c:Nat}:imp [a,b,c] [] g hs:=lin hs g ct ok [a,b,c] []
theorem ln4 (hs:List F) (g:F) (ct:Ct) (ok:chk 400 [] ((g,false)::hs.map fun h=>(h,true)) ct=true) {a b c d:Nat}:imp [a,b,c,d] [] g hs:=lin hs g ct ok [a,b,c,d] []
theorem ln5 (hs:List F) (g:F) (ct:Ct) (ok:chk 400 [] ((g,false)::hs.map fun h=>(h,true)) ct=true) {a b c d e:Nat}:imp [a,b,c,d,e] [] g hs:=lin hs g ct ok [a,b,c,d,e] []
theorem ln6 (hs:List F) (g:F) (ct:Ct) (ok:chk 400 [] ((g,false)::hs.map fun h=>(h,true)) ct=true) {a b c d e x:Nat}:imp [a,b,c,d,e,x] [] g hs:=lin hs g ct ok [a,b,c,d,e,x] []
theorem ln7 (hs:List F) (g:F) (ct:Ct) (ok:chk 400 [] ((g,false)::hs.map fun h=>(h,true)) ct=true) {a b c d e x y:Nat}:imp [a,b,c,d,e,x,y] [] g hs:=lin hs g ct ok [a,b,c,d,e,x,y] []
theorem lz1 (hs:List F) (g:F) (ct:Ct) (ok:chk 400 [] ((g,false)::hs.map fun h=>(h,true)) ct=true) {a:Int}:imp [] [a] g hs:=lin hs g ct ok [] [a]
theorem lz2 (hs:List F) (g:F) (ct:Ct) (ok:chk 400 [] ((g,false)::hs.map fun h=>(h,true)) ct=true) {a b:Int}:imp [] [a,b] g hs:=lin hs g ct ok [] [a,b]
theorem lz3 (hs:List F) (g:F) (ct:Ct) (ok:chk 400 [] ((g,false)::hs.map fun h=>(h,true)) ct=true) {a b c:Int}:imp [] [a,b,c] g hs:=lin hs g ct ok [] [a,b,c]
theorem lz6 (hs:List F) (g:F) (ct:Ct) (ok:chk 400 [] ((g,false)::hs.map fun h=>(h,true)) ct=true) {a b c d e x:Int}:imp [] [a,b,c,d,e,x] g hs:=lin hs g ct ok [] [a,b,c,d,e,x]
end Mini.Internal.Lin
open Mini.Internal.Lin (lin sub_ax nat_ax min_ax max_ax div_ax ln1 ln2 ln3 ln4 ln5 ln6 ln7 lz1 lz2 lz3 lz6)
set_option genCtorIdx true
namespace Mini.Internal
open PySem PyProof.Rows PySem.SeqAt
theorem bind_e {α β:Type}{x:Option α}{f:α→Option β}{b:β}{P:Prop} (h:x.bind f=some b) (k:∀a,x=some a→f a=some b→P):P:=by
 cases x with
 | none=>cases h
 | some a=>exact k a rfl h
theorem map_e {α β:Type}{x:Option α}{f:α→β}{b:β}{P:β→Prop} (h:x.map f=some b) (k:∀a,x=some a→P (f a)):P b:=by
 cases x with
 | none=>cases h
 | some a=>cases h;exact k a rfl
theorem mapn_e {α β:Type}{x:Option α}{f:α→β}{b:β}{P:Prop} (h:x.map f=some b) (k:∀a,x=some a→f a=b→P):P:=by
 cases x with
 | none=>cases h
 | some a=>exact k a rfl (Option.some.inj h)
theorem ite_e {α:Type}{c:Prop}{dc:Decidable c}{x:Option α}{b:α}{P:Prop} (h:(if c then x else .none)=some b) (k:c→x=some b→P):P:=by
 by_cases hc:c
 ·rw [if_pos hc] at h;exact k hc h
 ·rw [if_neg hc] at h;cases h
theorem entry_unchain : entryFor table "proto.unchain" = some Builtin.«proto.unchain» := entryFor_of_tree (by kernel_rfl)
variable {prog:Program}{w:World}{A:Around}{s:Shared}{E:Value→Shared→Prop}
noncomputable def NoCtx (h:Heap) (a:Addr):Prop:=∃o vs,h.get? a=some o∧o.data=.fields vs∧vs[2]? = some .none
theorem unchain_run {e x : Addr} {Q : Value → Shared → Prop} (hc : NoCtx s.heap x) (hq : Q .none s) : wpAny (model prog w) A (runValue (.builtin "proto.unchain" ⟨[.ref e, .ref x, .ref x, .bool false], []⟩)) Q E s := by
 revert hc;refine rEEAA fun o vs ho hd h2=>?_
 refine wpAny_runValue (codeAny_builtin entry_unchain ?_)
 show wpAny _ _ (field (.ref x) 2 >>= _) _ _ s
 refine wpAny_bind (wpAny_field ho hd h2 ?_)
 show wpAny _ _ (if (Value.none == Value.none)=true then _ else _) _ _ s
 rw [if_pos (show (Value.none == Value.none)=true from rfl)]
 exact wpAny_pure hq
theorem list_end_h {it l x : Addr} {i : Nat} {items : Array Value} {Q : Option Value → Shared → Prop} (hh : A.handled = some (.ref x)) (hc : NoCtx s.heap x) (hxi : x ≠ it)
  (hit:s.heap.IsListIter it l i) (hl:s.heap.IsList l items) (hx:items[i]? = none)
  (hQ:∀h',Heap.ExtBut it s.heap h'→Q none { s with heap:=h' }):wpAny (model prog w) A (pyNext (.ref it)) Q E s:=by
 have hit0:=hit
 revert hit;refine rEAA fun o ho hcl hd=>?_
 refine byC fun hX=>?_;obtain ⟨ol,hol,_,nl,hdl⟩:=hl;refine hX ?_;clear hX
 unfold pyNext
 refine wpAny_bind (wpAny_attempt (wpAny_callSpecial?_slot (name := Str.ofString "__next__") hit0.typeIs slot_listiter_next
  (wpAny_call_entry slot_listiter_next hit0.typeIs entry_listiter_next ?_ (args_listiter_next _))))
 show wpAny _ _ (field (.ref it) 0 >>= _) _ _ s
 refine wpAny_bind (wpAny_field ho hd (x:=.ref l) rfl ?_)
 show wpAny _ _ (if (Value.ref l == Value.none)=true then _ else _) _ _ s
 rw [if_neg (show ¬ ((Value.ref l == Value.none)=true) from Bool.false_ne_true)]
 show wpAny _ _ (field (.ref it) 1 >>= _) _ _ s
 refine wpAny_bind (wpAny_field ho hd (x:=.int i 0) rfl ?_)
 show wpAny _ _ (seqItems? (.ref l) >>= _) _ _ s
 refine wpAny_bind (wpAny_seqItems hol hdl ?_)
 simp only [Int.toNat_natCast,hx]
 refine wpAny_bind (wpAny_rule (wpAny_bind (wpAny_setField ho hd (by simp) ?_)))
 show wpAny _ _ (newExc (.type "StopIteration") [] >>= _) _ _ _
 refine wpAny_bind ?_
 simp only [newExc,newTuple]
 refine wpAny_bind (wpAny_newObj_type ?_ (by size_fits))
 refine wpAny_bind (m:=firstArgMember _ _) (wpAny_of_eq (a:=Value.none) (by first | rfl | (simp only [firstArgMember];rfl)) ?_)
 refine wpAny_newObj_type ?_ (by size_fits)
 simp only [raiseNew]
 refine wpAny_bind (wpAny_handled ?_)
 rw [show A.in1.handled=some (.ref x) from hh]
 revert hc;refine rEEAA fun ox vx e1 e2 e3=>?_
 have hlt:=Heap.lt_size e1
 have kx:∀o1 o2:Obj,(((s.heap.update it (Obj.mapFields (·.setIfInBounds 0 .none))).push o1).push o2).get? x=some ox:=fun o1 o2=>
  Heap.get?_push_of_some _ (Heap.get?_push_of_some _ (((Heap.SameBut.update ..).2 x hxi).trans e1))
 have hsz : ((s.heap.update it (Obj.mapFields fun x => x.setIfInBounds 0 Value.none)).push { cls := Value.type "tuple", data := Data.seq #[] }).objs.size = s.heap.objs.size + 1 := by
  rw [Heap.size_push,(Heap.SameBut.update ..).1]
 show wpAny _ _ (if (Value.ref x != Value.ref _)=true then _ else _) _ _ _
 rw [if_pos (by rw [bne_iff_ne];intro e;have e:=Value.ref.inj e;rw [hsz] at e;exact absurd e (Nat.ne_of_lt (Nat.lt_succ_of_lt hlt)))]
 refine wpAny_bind (wpAny_holding (unchain_run ⟨ox,vx,kx _ _,e2,e3⟩ ?_))
 refine wpAny_bind ?_
 show wpAny _ _ (setField (.ref _) 2 (.ref x)) _ _ _
 refine wpAny_setField (Heap.get?_push_size _ rfl) rfl (by simp [ownMembersOf]) (wpAny_throw ?_)
 refine wpAny_bind (wpAny_isInstance (T := "StopIteration") (b := true) ⟨_, Heap.get?_update_self _ (Heap.get?_push_size _ rfl) rfl, rfl⟩ isSubtype_stop ?_)
 refine wpAny_pure (hQ _ fun b o' hb e=>?_)
 have hlb:=Heap.lt_size e
 refine ((Heap.SameBut.update ..).2 b (by rw [hsz];exact Nat.ne_of_lt (Nat.lt_succ_of_lt hlb))).trans ?_
 exact (((Heap.SameBut.update ..).extBut.push _).push _) b o' hb e
noncomputable def F2 (f:Obj→Obj):Prop:=∀o vs,o.data=.fields vs→vs[2]? = some .none→∃vs',(f o).data=.fields vs'∧vs'[2]? = some .none
inductive Safe {α:Type}:Sem α→Prop
 | pure (a:α):Safe (.pure a)
 | raise (e:Value):Safe (.raise e)
 | unsup (w:String):Safe (.unsupported w)
 | rule (t:String) (k:Unit→Sem α) (h:∀x,Safe (k x)):Safe (.rule t k)
 | at_ (p:Pos) (k:Unit→Sem α) (h:∀x,Safe (k x)):Safe (.at p k)
 | load (a:Addr) (p:Option Value) (k:Obj→Sem α) (h:∀x,Safe (k x)):Safe (.load a p k)
 | update (a:Addr) (p:Option Value) (f:Obj→Obj) (k:Unit→Sem α) (hf:F2 f) (h:∀x,Safe (k x)):Safe (.update a p f k)
 | alloc (o:Obj) (k:Addr→Sem α) (h:∀x,Safe (k x)):Safe (.alloc o k)
 | point (l:List Value) (k:Unit→Sem α) (h:∀x,Safe (k x)):Safe (.point l k)
 | stack (k:List (Code×Pos)→Sem α) (h:∀x,Safe (k x)):Safe (.stack k)
theorem Safe.bind {α β:Type}{m:Sem α} (hm:Safe m) {f:α→Sem β} (hf:∀a,Safe (f a)):Safe (m >>= f):=by
 show Safe (m.bind f)
 induction hm with
 | pure a=>exact hf a
 | raise e=>exact .raise e
 | unsup w=>exact .unsup w
 | rule t k _ ih=>exact .rule _ _ ih
 | at_ p k _ ih=>exact .at_ _ _ ih
 | load a p k _ ih=>exact .load _ _ _ ih
 | update a p g k hg _ ih=>exact .update _ _ _ _ hg ih
 | alloc o k _ ih=>exact .alloc _ _ ih
 | point l k _ ih=>exact .point _ _ ih
 | stack k _ ih=>exact .stack _ ih
theorem NoCtx.update {h:Heap}{e a:Addr}{f:Obj→Obj} (x:NoCtx h e) (hf:F2 f):NoCtx (h.update a f) e:=by
 revert x;refine rEEAA fun o vs h1 h2 h3=>?_
 by_cases hae:a=e
 ·subst hae
  refine rEA (fun vs' g1 g2=>?_) (hf o vs h2 h3)
  exact ⟨f o,vs',Heap.get?_update_self f h1 (Obj.isFreed_of_fields g1),g1,g2⟩
 ·exact ⟨o,vs,(Heap.get?_update_other h f hae).trans h1,h2,h3⟩
theorem Safe.wp {α : Type} {M : Model} {Γ : Ctx} {e : Addr} {m : Sem α} (hm : Safe m) : ∀ {Q : α → Pos → Shared → Prop} {E : Value → Pos → Shared → Prop} {p : Pos} {s : Shared}, Sem.wp M Γ m Q E p s → NoCtx s.heap e →
  Sem.wp M Γ m (fun a p s=>Q a p s∧NoCtx s.heap e) (fun v p s=>E v p s∧NoCtx s.heap e) p s:=by
 induction hm with
 | pure a=>intro Q E p s h hn;rw [Sem.wp] at h ⊢;exact ⟨h,hn⟩
 | raise v=>intro Q E p s h hn;rw [Sem.wp] at h ⊢;exact ⟨h,hn⟩
 | unsup w=>intro Q E p s h hn;rw [Sem.wp] at h;exact h.elim
 | rule t k _ ih=>intro Q E p s h hn;rw [Sem.wp] at h ⊢;exact ih _ h hn
 | at_ p k _ ih=>intro Q E p s h hn;rw [Sem.wp] at h ⊢;exact ih _ h hn
 | load a p k _ ih=>intro Q E p s h hn;rw [Sem.wp] at h ⊢;revert h;refine rEA fun o h1 h2=>?_;exact ⟨o,h1,ih _ h2 hn⟩
 | update a p g k hg _ ih=>intro Q E p s h hn;rw [Sem.wp] at h ⊢;exact ⟨h.1,ih _ h.2 (hn.update hg)⟩
 | alloc o k _ ih=>
  intro Q E p s h hn;rw [Sem.wp] at h ⊢
  revert hn;refine rEEAA fun o' vs h1 h2 h3=>?_
  exact ih _ h ⟨o',vs,Heap.get?_push_of_some _ h1,h2,h3⟩
 | point l k _ ih=>intro Q E p s h hn;rw [Sem.wp] at h ⊢;exact ih _ h hn
 | stack k _ ih=>intro Q E p s h hn;rw [Sem.wp] at h ⊢;exact ih _ h hn
theorem Safe.any {α : Type} {M : Model} {A : Around} {e : Addr} {m : Sem α} (hm : Safe m) {Q : α → Shared → Prop} {E : Value → Shared → Prop} {s : Shared} (h : wpAny M A m Q E s) (hn : NoCtx s.heap e) :
  wpAny M A m (fun a s=>Q a s∧NoCtx s.heap e) (fun v s=>E v s∧NoCtx s.heap e) s:=fun Γ p hΓ=>hm.wp (h Γ p hΓ) hn
theorem f2_set {i:Nat}{v:Value} (hi:i≠2):F2 (Obj.mapFields (·.setIfInBounds i v)):=fun o vs h1 h2=>by
 refine ⟨_,Obj.data_mapFields h1 _,?_⟩
 rw [Array.getElem?_setIfInBounds_ne hi];exact h2
theorem f2_slots {g:Obj→Array (Option Value)}:F2 (fun o=>{ o with slots:=g o }):=fun o vs h1 h2=>⟨vs,h1,h2⟩
theorem safe_fieldsOf (v:Value):Safe (fieldsOf v):=by
 cases v with
 | ref a=>
  refine .load _ _ _ fun o=>?_
  show Safe (match o.data with | .fields vs=>_ | _=>_)
  split
  ·exact .pure _
  ·exact .unsup _
 | _=>exact .unsup _
theorem safe_field (v:Value) (i:Nat):Safe (field v i):=by
 refine (safe_fieldsOf v).bind fun vs=>?_
 split
 ·exact .pure _
 ·exact .unsup _
theorem safe_setField (v:Value) {i:Nat} (hi:i≠2) (x:Value):Safe (setField v i x):=by
 cases v with
 | ref a=>
  refine .load _ _ _ fun o=>?_
  show Safe (match o.data with | .fields vs=>_ | _=>_)
  split
  ·split
   ·exact .update _ _ _ _ (f2_set hi) fun u_=>.pure _
   ·exact .unsup _
  ·exact .unsup _
 | _=>exact .unsup _
theorem safe_setFlight (e:Value) (fr:Option Addr):Safe (setFlight e fr):=by
 refine (safe_field e 1).bind fun tb=>?_
 split
 ·exact safe_setField _ (by decide) _
 ·exact .pure _
theorem safe_stack:Safe stack:=.stack _ fun u_=>.pure _
theorem safe_place (f:Addr) (b:Bool):Safe (entryPlaceOf f b):=by
 refine safe_stack.bind fun acts=>?_
 split
 ·exact .pure _
 ·exact .pure _
theorem safe_kept (env:Env) (b:Bool):∀l,Safe (keptBack env b l)
 | []=>by
  show Safe (if (env.scope.isGenerator || env.scope.isCoroutine)=true then pure Value.none else do return if ← underTheClaimsCaller then Value.notImplemented else Value.none)
  split
  ·exact .pure _
  ·refine Safe.bind (m:=underTheClaimsCaller) (safe_stack.bind fun u_=>.pure _) fun u_=>.pure _
 | _::_=>.pure _
theorem safe_import (env:Env) (l:List Env):Safe (behindIsImport env l):=by
 unfold behindIsImport
 split
 ·exact .pure _
 ·split
  ·exact .pure _
  ·exact (safe_field _ _).bind fun u_=>.pure _
theorem safe_ready:∀l,Safe (readyFrames l)
 | []=>.pure _
 | env::outer=>by
  unfold readyFrames
  split
  ·refine Safe.bind (m:=load _) (.load _ _ _ fun u_=>.pure _) fun o=>?_
   split
   ·exact .pure _
   ·refine (safe_import _ _).bind fun b=>(safe_kept _ _ _).bind fun v=>?_
    exact Safe.bind (m:=PySem.update _ _) (.update _ _ _ _ f2_slots fun u_=>.pure _) fun u_=>safe_ready outer
  ·exact .unsup _
theorem safe_frameOf (env:Env):Safe (frameOf env):=by
 unfold PySem.frameOf
 refine Safe.bind (m:=frameEnvs) (safe_stack.bind fun u_=>.pure _) fun l=>?_
 refine Safe.bind ?_ fun r=>?_
 ·unfold frameObject
  split
  ·exact .pure _
  ·exact (safe_ready _).bind fun u_=>.pure _
 ·split
  ·exact .pure _
  ·exact .unsup _
theorem safe_newFields (t:String) (vs:List Value):Safe (newFields t vs):=by
 show Safe (if vs.toArray.size > sizeLine + 2 then (unsupported "record:memory" >>= fun _ : Unit => newObjAsIs (.type t) (.fields vs.toArray)) else newObjAsIs (.type t) (.fields vs.toArray))
 split
 ·exact .unsup _
 ·exact .alloc _ _ fun u_=>.pure _
theorem safe_noteFrame (e:Value) (env:Env):Safe (noteFrame e env):=by
 unfold noteFrame
 split
 ·refine (safe_field _ _).bind fun head=>?_
  have fin:∀(f:Addr) (b:Bool),Safe (do setField e 1 (← EntryCells.newEntry head (← frameOf env) .none (rawInt f) .none (← entryPlaceOf f b))):=fun f b=>
   (safe_frameOf env).bind fun fr=>(safe_place _ _).bind fun pl=>Safe.bind (m:=EntryCells.newEntry head fr .none (rawInt f) .none pl) (safe_newFields _ _) fun x=>safe_setField e (i:=1) (by decide) x
  split
  ·refine (safe_field _ _).bind fun x=>?_
   split
   ·exact .pure _
   ·exact (safe_setField _ (by decide) _).bind fun u_=>fin _ _
  ·exact fin _ _
 ·exact .unsup _
theorem safe_leaving (env:Env) (e:Value):Safe (leaving env e):=(safe_noteFrame e env).bind fun u_=>safe_setFlight e none
variable {prog:Program}{w:World}{A:Around}{s:Shared}{E:Value→Shared→Prop}
theorem slice_two {sl : Addr} {u : Tok} {Q : Int × Int × Nat → Shared → Prop} (hs : s.heap.IsSliceOf sl .none (.int 2 u) .none) (h : Q ((0 : Int), 1, 2) s) :
  wpAny (model prog w) A (Builtin.Slice.sliceApplied (.ref sl) (pure (3:Int))) Q E s:=by
 refine byC fun hX=>?_;obtain ⟨os,hos,hcs,hds⟩:=id hs;refine hX ?_;clear hX
 unfold Builtin.Slice.sliceApplied Builtin.Slice.sliceFields
 refine wpAny_bind (wpAny_bind (wpAny_field hos hds (x:=.none) rfl (wpAny_bind (wpAny_field hos hds (x:=.int 2 u) rfl (wpAny_bind (wpAny_field hos hds (x:=.none) rfl (wpAny_pure ?_)))))))
 refine wpAny_bind (slicePart_none ?_)
 show wpAny _ _ (if ((1:Int) == 0)=true then _ else _) _ _ s
 rw [if_neg (by decide)]
 refine wpAny_bind (slicePart_none (wpAny_bind (slicePart_int (wpAny_bind (wpAny_pure ?_)))))
 exact wpAny_pure h
theorem getItem_two {t sl : Addr} {x y z : Value} {u : Tok} {Q : Value → Shared → Prop} (ht : IsTup s.heap t #[x, y, z]) (hs : s.heap.IsSliceOf sl .none (.int 2 u) .none)
  (h : Q (.ref s.heap.objs.size) { s with heap := s.heap.push { cls := .type "tuple", data := .seq #[x, y] } }) : wpAny (model prog w) A (getItem (.ref t) (.ref sl)) Q E s := by
 refine byC fun hX=>?_;obtain ⟨os,hos,hcs,hds⟩:=id hs;refine hX ?_;clear hX
 have hTs : s.TypeIs (.ref sl) "slice" := ⟨os, hos, hcs⟩
 unfold getItem
 try with_reducible refine wpAny_holding ?_
 first | refine wpAny_bind (wpAny_pure ?_) | skip
 refine wpAny_bind (wpAny_sequenceKey ht.typeIs (by decide) ?_)
 refine wpAny_bind (wpAny_callSpecial?_slot (name := Str.ofString "__getitem__") ht.typeIs slot_tuple_getitem
  (wpAny_call_entry slot_tuple_getitem ht.typeIs entry_tuple_getitem ?_ (args_tuple_getitem _ _)))
 show wpAny _ _ (Builtin.Tuple.tupleItemsOf (.ref t) >>= _) _ _ s
 refine wpAny_bind (tupleItemsOf_ ht ?_)
 refine wpAny_bind (wpAny_typeOf hTs ?_)
 rw [if_pos (by decide)]
 refine wpAny_bind (slice_two hs ?_)
 show wpAny _ _ (if ((0:Int) == 0 && (1:Int) == 1 && (2:Nat) == 3)=true then _ else _) _ _ s
 have hdrop:sizeOk (.seq #[x,y]):=by show (2:Nat)≤sizeLine;decide
 rw [if_neg (by decide),show ((List.range 2).filterMap fun (k:Nat)=>(#[x,y,z]:Array Value)[((0:Int) + (k:Int) * 1).toNat]?).toArray = #[x,y] from rfl]
 first
  | exact wpAny_bind (m:=Builtin.Tuple.tupleExact _) (wpAny_newObj_type (wpAny_pure ⟨_,rfl,wpAny_pure h⟩) hdrop)
  | exact wpAny_bind (m:=Builtin.Tuple.tupleExact _) (wpAny_newObj_type (wpAny_bind (wpAny_pure (wpAny_pure ⟨_,rfl,wpAny_pure h⟩))) hdrop)
  | exact wpAny_bind (wpAny_bind (m:=Builtin.Tuple.tupleExact _) (wpAny_newObj_type (wpAny_pure (wpAny_pure ⟨_,rfl,wpAny_pure h⟩)) hdrop))
  | exact wpAny_bind (wpAny_bind (m:=Builtin.Tuple.tupleExact _) (wpAny_newObj_type (wpAny_pure ⟨_,rfl,wpAny_pure h⟩) hdrop))
end Mini.Internal
set_option genSizeOf false
set_option genSizeOfSpec false
namespace Mini.Internal
open PySem
inductive V where
 | none
 | bool (b:Bool)
 | int (i:Int)
 | str (s:Str)
 | tup (l:List V)
 | obj (n:Nat)
 | ty (t:Nat)
 | frz (l:List Int)
inductive O where
 | list (l:List V)
 | inst (c:Nat) (d:Nat)
 | ns (l:List (Nat×V))
abbrev H:=List O
abbrev L:=List (Option V)
inductive Bop where | add | sub | mul | fdiv | mod | pow
 deriving DecidableEq
inductive Cop where | eq | ne | lt | le | gt | ge | is | isnot | mem | nmem
 deriving DecidableEq
inductive Blt where | len | max | min | sorted | int | list | sum | isinstance
 deriving DecidableEq
inductive Mth where | append | pop | index
 deriving DecidableEq
set_option genInjectivity false
set_option genCtorIdx false
mutual
inductive Ex where
 | lit (v:V)
 | var (i:Nat)
 | ty (t:Nat)
 | bin (op:Bop) (a b:Ex)
 | neg (a:Ex)
 | not (a:Ex)
 | and (a b:Ex)
 | or (a b:Ex)
 | cmp (a:Ex) (r:Ch)
 | ife (c a b:Ex)
 | tup (es:Es)
 | lst (es:Es)
 | idx (a i:Ex)
 | slc (a:Ex) (lo hi st:Oe)
 | comp (elt:Ex) (tg:Nat) (it:It) (ifs:Es)
 | call (f:Nat) (as:Es)
 | blt (b:Blt) (as:Es)
 | mth (m:Mth) (o:Ex) (as:Es)
 | ucall (m:Nat) (o:Ex) (as:Es)
 | attr (o:Ex) (a:Nat)
 | new (c:Nat) (as:Es)
inductive Es where
 | nil
 | cons (e:Ex) (es:Es)
inductive Ch where
 | one (op:Cop) (b:Ex)
 | more (op:Cop) (b:Ex) (r:Ch)
inductive Oe where
 | no
 | yes (e:Ex)
inductive It where
 | ex (e:Ex)
 | rng1 (e:Ex)
 | exL (e:Ex)
end
noncomputable abbrev Ex.i (n:Int):Ex:=.lit (.int n)
noncomputable abbrev Ex.v0:Ex:=.var 0
noncomputable abbrev Ex.v1:Ex:=.var 1
noncomputable abbrev Ex.v2:Ex:=.var 2
noncomputable abbrev Ex.v3:Ex:=.var 3
noncomputable abbrev Ex.v4:Ex:=.var 4
noncomputable abbrev Ex.v5:Ex:=.var 5
noncomputable abbrev Ex.v6:Ex:=.var 6
noncomputable abbrev Ex.v7:Ex:=.var 7
noncomputable abbrev Ex.v8:Ex:=.var 8
noncomputable abbrev Ex.v9:Ex:=.var 9
inductive Tg where
 | one (i:Nat)
 | three (i j k:Nat)
mutual
inductive St where
 | expr (e:Ex)
 | asg (t:Tg) (e:Ex)
 | aset (o:Ex) (a:Nat) (e:Ex)
 | iset (o i e:Ex)
 | ret (e:Ex)
 | ife (c:Ex) (a b:Ss)
 | for_ (t:Tg) (it:It) (b:Ss)
 | whl (c:Ex) (b:Ss)
 | brk
 | pass
 | raise (c:Nat)
 | try_ (b:Ss) (c i f:Nat)
inductive Ss where
 | nil
 | cons (s:St) (ss:Ss)
end
set_option genCtorIdx true
inductive R (α:Type) where
 | ok (a:α)
 | exc (c:Nat)
theorem nn {α:Type}{a:α}{P:Prop} (h:Option.none=some a):P:=nomatch h
theorem ns {α:Type}{a:α}{P:Prop} (h:some a=Option.none):P:=nomatch h
theorem tf {P:Prop} (h:true=false):P:=nomatch h
theorem ft {P:Prop} (h:false=true):P:=nomatch h
theorem and_i {a b:Bool} (h:a=true) (k:b=true):(a && b)=true:=by rw [h,k];rfl
theorem and_l {a b:Bool} (h:(a && b)=true):a=true:=by cases a with
 | true=>rfl
 | false=>exact ft h
theorem and_r {a b:Bool} (h:(a && b)=true):b=true:=by cases a with
 | true=>exact h
 | false=>exact ft h
theorem eo {α:Type}{v:Nat}{w:α}{P:Prop} (h:R.exc v=R.ok w):P:=by cases h
theorem oe {α:Type}{v:Nat}{w:α}{P:Prop} (h:R.ok w=R.exc v):P:=by cases h
theorem soe {α β:Type}{v:Nat}{w:α}{s t:β}{P:Prop} (h:some (R.ok w,s)=some (R.exc v,t)):P:=by cases h
theorem seo {α β:Type}{v:Nat}{w:α}{s t:β}{P:Prop} (h:some (R.exc v,s)=some (R.ok w,t)):P:=by cases h
theorem oi {α:Type}{v w:α} (h:R.ok v=R.ok w):v=w:=by cases h;rfl
theorem ei {α:Type}{v w:Nat} (h:R.exc (α:=α) v=R.exc w):v=w:=by cases h;rfl
theorem okJ {α β:Type}{v w:α}{s t:β} (h:some (R.ok v,s)=some (R.ok w,t)):v=w∧s=t:=by cases h;exact ⟨rfl,rfl⟩
theorem exJ {α β:Type}{v w:Nat}{s t:β} (h:some (R.exc (α:=α) v,s)=some (R.exc w,t)):v=w∧s=t:=by cases h;exact ⟨rfl,rfl⟩
theorem pJ {α β:Type}{v w:α}{s t:β} (h:some (v,s)=some (w,t)):v=w∧s=t:=by cases h;exact ⟨rfl,rfl⟩
theorem pJ3 {α β γ:Type}{v w:α}{s t:β}{x y:γ} (h:some (v,s,x)=some (w,t,y)):v=w∧s=t∧x=y:=by cases h;exact ⟨rfl,rfl,rfl⟩
@[elab_as_elim] theorem eqS {α:Type}{x t:α}{P:α→Prop} (h:x=t) (k:P t):P x:=h ▸ k
@[elab_as_elim] theorem eqE {α:Type}{x t:α}{P:α→Prop} (h:t=x) (k:P t):P x:=h ▸ k
@[elab_as_elim] theorem siE {α:Type}{x t:α}{P:α→Prop} (h:some t=some x) (k:P t):P x:=Option.some.inj h ▸ k
@[elab_as_elim] theorem oiE {α:Type}{v w:α}{P:α→Prop} (h:R.ok v=R.ok w) (k:P v):P w:=oi h ▸ k
@[elab_as_elim] theorem eiE {α:Type}{v w:Nat}{P:Nat→Prop} (h:R.exc (α:=α) v=R.exc w) (k:P v):P w:=ei h ▸ k
@[elab_as_elim] theorem okE {α β:Type}{v w:α}{s t:β}{P:α→β→Prop} (h:some (R.ok v,s)=some (R.ok w,t)) (k:P v s):P w t:=(okJ h).1 ▸ (okJ h).2 ▸ k
@[elab_as_elim] theorem exE {α β:Type}{v w:Nat}{s t:β}{P:Nat→β→Prop} (h:some (R.exc (α:=α) v,s)=some (R.exc w,t)) (k:P v s):P w t:=(exJ h).1 ▸ (exJ h).2 ▸ k
@[elab_as_elim] theorem pE {α β:Type}{v w:α}{s t:β}{P:α→β→Prop} (h:some (v,s)=some (w,t)) (k:P v s):P w t:=(pJ h).1 ▸ (pJ h).2 ▸ k
@[elab_as_elim] theorem piE {α β:Type}{v w:α}{s t:β}{P:α→β→Prop} (h:(v,s)=(w,t)) (k:P v s):P w t:=(Prod.mk.inj h).1 ▸ (Prod.mk.inj h).2 ▸ k
@[elab_as_elim] theorem p3E {α β γ:Type}{v w:α}{s t:β}{x y:γ}{P:α→β→γ→Prop} (h:some (v,s,x)=some (w,t,y)) (k:P v s x):P w t y:=(pJ3 h).1 ▸ (pJ3 h).2.1 ▸ (pJ3 h).2.2 ▸ k
abbrev X (α:Type):=Option (R α×H)
noncomputable def bnd {α β:Type} (x:X α) (f:α→H→X β):X β :=
 match x with
 | .none=>.none
 | some (.ok a,σ)=>f a σ
 | some (.exc c,σ)=>some (.exc c,σ)
@[simp] theorem bnd_none {α β:Type} (f:α→H→X β):bnd .none f=.none:=rfl
@[simp] theorem bnd_ok {α β:Type} (a:α) (σ:H) (f:α→H→X β):bnd (some (.ok a,σ)) f=f a σ:=rfl
@[simp] theorem bnd_exc {α β:Type} (c:Nat) (σ:H) (f:α→H→X β):bnd (some (.exc c,σ)) f=some (.exc c,σ):=rfl
noncomputable def bok {α β:Type} (x:X α) (f:α→H→X β):X β :=
 match x with
 | some (.ok a,σ)=>f a σ
 | _=>.none
@[simp] theorem bok_ok {α β:Type} (a:α) (σ:H) (f:α→H→X β):bok (some (.ok a,σ)) f=f a σ:=rfl
theorem bok_inv {α β:Type}{x:X α}{f:α→H→X β}{r:R β×H} (h:bok x f=some r):∃a σ,x=some (.ok a,σ)∧f a σ=some r:=by
 cases x with
 | none=>exact nn h
 | some p=>
  refine byC fun hX=>?_;obtain ⟨q,σ⟩:=p;refine hX ?_;clear hX
  cases q with
  | ok a=>exact ⟨a,σ,rfl,h⟩
  | exc c=>exact nn h
noncomputable def okX {α:Type} (a:Option α) (σ:H):X α:=a.map fun v=>(.ok v,σ)
@[simp] theorem okX_some {α:Type} (a:α) (σ:H):okX (some a) σ=some (.ok a,σ):=rfl
@[simp] theorem okX_none {α:Type} (σ:H):okX (.none:Option α) σ=.none:=rfl
noncomputable def okH {α:Type} (a:Option (α×H)):X α:=a.map fun v=>(.ok v.1,v.2)
@[simp] theorem okH_some {α:Type} (a:α) (σ:H):okH (some (a,σ))=some (.ok a,σ):=rfl
@[simp] theorem okH_none {α:Type}:okH (.none:Option (α×H))=.none:=rfl
noncomputable def toD:Nat→H→V→Option PyData
 | 0,_,_=>.none
 | f + 1,σ,v=>match v with
  | .none=>some .none
  | .bool b=>some (.bool b)
  | .int i=>some (.int i)
  | .str s=>if PyData.strOk s then some (.str s) else .none
  | .tup l=>(l.mapM (toD f σ)).map .tuple
  | .obj n=>match σ[n]? with
   | some (.list l)=>(l.mapM (toD f σ)).map .list
   | _=>.none
  | .ty _=>.none
  | .frz _=>.none
noncomputable def eqV (σ:H) (a b:V):Option Bool :=
 match toD 6 σ a,toD 6 σ b with
 | some x,some y=>some (PyData.eqv x y)
 | _,_=>.none
noncomputable def ltT:List V→List V→Option Bool
 | [],[]=>some false
 | [],_::_=>some true
 | _::_,[]=>some false
 | .int a::r,.int b::s=>if a=b then ltT r s else some (decide (a < b))
 | _,_=>.none
noncomputable def truth:V→Option Bool
 | .bool b=>some b
 | .none=>some false
 | _=>.none
noncomputable def bigE:Nat:=2 ^ 21
noncomputable def Big (a:Int):Prop:=a.natAbs < 2 ^ bigE
noncomputable def mulOK (a b:Int):Prop:=a.natAbs < 2 ^ 64∨b.natAbs < 2 ^ 64∨(Big a∧Big b)
noncomputable def lenMax:Nat:=1000000
noncomputable def items (σ:H):V→Option (List V)
 | .tup l=>some l
 | .frz l=>some (l.map .int)
 | .obj n=>match σ[n]? with
  | some (.list l)=>some l
  | _=>.none
 | _=>.none
noncomputable def listOf (σ:H):V→Option (List V)
 | .frz l=>some (l.map .int)
 | .obj n=>match σ[n]? with
  | some (.list l)=>some l
  | _=>.none
 | _=>.none
open Classical in
noncomputable def mkList (σ:H) (l:List V):Option (V×H):=if l.length≤lenMax then some (.obj σ.length,σ++[.list l]) else .none
noncomputable def asInt:V→Option Int
 | .int i=>some i
 | _=>.none
noncomputable def asTup:V→Option (List V)
 | .tup l=>some l
 | _=>.none
theorem asInt_inv {v:V}{i:Int} (h:asInt v=some i):v=.int i:=by
 cases v with
 | int j=>obtain rfl:=Option.some.inj h;rfl
 | _=>exact nn h
theorem asTup_inv {v:V}{l:List V} (h:asTup v=some l):v=.tup l:=by
 cases v with
 | tup j=>obtain rfl:=Option.some.inj h;rfl
 | _=>exact nn h
noncomputable def arg1:List V→Option V
 | []=>.none
 | x::r=>match r with
  | []=>some x
  | _::_=>.none
theorem arg1_inv {l:List V}{x:V} (h:arg1 l=some x):l=[x]:=by
 cases l with
 | nil=>exact nn h
 | cons a r=>cases r with
  | nil=>obtain rfl:=Option.some.inj h;rfl
  | cons _ _=>exact nn h
noncomputable def arg2:List V→Option (V×V)
 | []=>.none
 | x::r=>(arg1 r).map fun y=>(x,y)
theorem arg2_inv {l:List V}{p:V×V} (h:arg2 l=some p):l=[p.1,p.2]:=by
 cases l with
 | nil=>exact nn h
 | cons a r=>
  refine byC fun hX=>?_;obtain ⟨y,hy,rfl⟩:=Option.map_eq_some_iff.mp h;refine hX ?_;clear hX
  rw [arg1_inv hy]
open Classical in
noncomputable def arith (op:Bop) (x y:Int):Option Int :=
 match op with
 | .add=>some (x + y)
 | .sub=>some (x - y)
 | .mul=>if mulOK x y then some (x * y) else .none
 | .fdiv=>if y≠0∧y.natAbs < 2 ^ 256 then some (x.fdiv y) else .none
 | .mod=>if y≠0 then some (x.fmod y) else .none
 | .pow=>if 0≤y∧y≤256∧x.natAbs < 2 ^ 64 then some (x ^ y.toNat) else .none
noncomputable def catV (σ:H) (a b:V):Option (V×H):=(listOf σ a).bind fun x=>(listOf σ b).bind fun y=>mkList σ (x++y)
noncomputable def tupV (σ:H) (x:List V) (b:V):Option (V×H):=(asTup b).bind fun y=>if x≠[]∧y≠[]∧x.length + y.length≤lenMax then some (.tup (x++y),σ) else .none
noncomputable def strV (σ:H) (s:Str) (b:V):Option (V×H):=(asInt b).bind fun k=>if k=1 then some (.str s,σ) else if k=0 then some (.str Str.empty,σ) else .none
noncomputable def binop (op:Bop) (a b:V) (σ:H):Option (V×H) :=
 match a with
 | .int x=>(asInt b).bind fun y=>(arith op x y).map fun z=>(.int z,σ)
 | .obj n=>if op=.add then catV σ (.obj n) b else .none
 | .tup x=>if op=.add then tupV σ x b else .none
 | .str s=>if op=.mul then strV σ s b else .none
 | _=>.none
noncomputable def isNoneV:V→Option Bool
 | .none=>some true
 | .ty _=>.none
 | _=>some false
noncomputable def isBoolV (c:Bool):V→Option Bool
 | .bool d=>some (d == c)
 | .int _=>some false
 | .none=>some false
 | _=>.none
noncomputable def isV (a b:V):Option Bool :=
 match b with
 | .none=>isNoneV a
 | .bool c=>isBoolV c a
 | _=>.none
noncomputable def inV (σ:H) (x:V) (l:List V):Option Bool :=
 match l.mapM (toD 6 σ),toD 6 σ x with
 | some ds,some d=>some (ds.any fun y=>PyData.eqv y d)
 | _,_=>.none
noncomputable def ltV (a b:V):Option Bool :=
 match a with
 | .int x=>(asInt b).map fun y=>decide (x < y)
 | .tup x=>(asTup b).bind (ltT x)
 | _=>.none
noncomputable def leV (a b:V):Option Bool:=(asInt a).bind fun x=>(asInt b).map fun y=>decide (x≤y)
noncomputable def cmpop (op:Cop) (a b:V) (σ:H):Option Bool :=
 match op with
 | .eq=>eqV σ a b
 | .ne=>(eqV σ a b).map (!·)
 | .lt=>ltV a b
 | .gt=>ltV b a
 | .le=>leV a b
 | .ge=>leV b a
 | .is=>isV a b
 | .isnot=>(isV a b).map (!·)
 | .mem=>(items σ b).bind (inV σ a)
 | .nmem=>((items σ b).bind (inV σ a)).map (!·)
noncomputable def idxN (i:Int) (n:Nat):Option Nat :=
 if 0≤i then (if i < n then some i.toNat else .none) else (if 0≤i + n then some (i + n).toNat else .none)
noncomputable def getIdx (σ:H) (a i:V):Option V:=(asInt i).bind fun k=>(items σ a).bind fun l=>(idxN k l.length).bind fun j=>l[j]?
noncomputable def clampS (i:Int) (n:Nat):Nat:=if i < 0 then (i + n).toNat else min i.toNat n
noncomputable def asBound:V→Option (Option Int)
 | .none=>some .none
 | .int i=>some (some i)
 | _=>.none
noncomputable def loN (b:Option Int) (n:Nat):Nat:=b.elim 0 fun i=>clampS i n
noncomputable def hiN (b:Option Int) (n:Nat):Nat:=b.elim n fun i=>clampS i n
noncomputable def sliceL (l:List V) (lo hi st:V):Option (List V) :=
 (asBound lo).bind fun a=>(asBound hi).bind fun b=>(asBound st).bind fun c=>
  if c=.none then some ((l.take (hiN b l.length)).drop (loN a l.length))
  else .none
noncomputable def tup2 (l:List V):Option V:=match l with
 | [x,y,_]=>some (.tup [x,y])
 | _=>.none
noncomputable def sliceT (l:List V) (lo hi st:V):Option V:=(asBound lo).bind fun a=>(asBound hi).bind fun b=>(asBound st).bind fun c=>if a=.none∧b=some 2∧c=.none then tup2 l else .none
noncomputable def sliceV (σ:H) (a lo hi st:V):Option (V×H):=(asTup a).elim ((listOf σ a).bind fun l=>(sliceL l lo hi st).bind (mkList σ)) fun l=>(sliceT l lo hi st).map fun v=>(v,σ)
noncomputable def asInts:List V→Option (List Int)
 | []=>some []
 | .int i::r=>(asInts r).map (i::·)
 | _=>.none
structure T3 where
 a:Int
 b:Int
 c:Int
 deriving DecidableEq,Inhabited
noncomputable def T3.v (x:T3):V:=.tup [.int x.a,.int x.b,.int x.c]
noncomputable def T3.le (x y:T3):Bool:=decide (x.a < y.a) || (decide (x.a=y.a) && (decide (x.b < y.b) || (decide (x.b=y.b) && decide (x.c≤y.c))))
noncomputable def arg3:List V→Option (V×V×V)
 | []=>.none
 | x::r=>(arg2 r).map fun p=>(x,p.1,p.2)
noncomputable def t3Of (v:V):Option T3:=(asTup v).bind fun l=>(arg3 l).bind fun p=>(asInt p.1).bind fun a=>(asInt p.2.1).bind fun b=>(asInt p.2.2).map fun c=>⟨a,b,c⟩
noncomputable def t3s:List V→Option (List T3)
 | []=>some []
 | v::r=>(t3Of v).bind fun t=>(t3s r).map (t::·)
noncomputable def ascB:List T3→Bool
 | x::y::r=>(r.isEmpty || !T3.le y x) && ascB (y::r)
 | _=>true
noncomputable def iT (i:Int):T3:=⟨i,0,0⟩
noncomputable def sortV (l:List V):Option (List V):=(asInts l).elim ((t3s l).bind fun ts=>if ascB ts then some ((ts.mergeSort T3.le).map T3.v) else .none) fun is=>if ascB (is.map iT) then some ((is.mergeSort (fun a b=>decide (a≤b))).map .int) else .none
noncomputable def excSub (c t:Nat):Bool:=c == t || (t == 10 && (c == 11 || c == 12 || c == 13))
noncomputable def isiE (c t:Nat):Option Bool:=if (c=11∨c=12∨c=13)∧(t=4∨t=10∨t=11∨t=12∨t=13) then some (excSub c t || t == 4) else .none
noncomputable def isiO (o:O) (t:Nat):Option Bool:=match o with
 | .list _=>if t=3 then some true else if t=0 then some false else .none
 | _=>.none
noncomputable def isiV (σ:H) (v:V) (t:Nat):Option Bool:=match v with
 | .int _=>if t=0 then some true else if t=1 then some false else .none
 | .bool _=>if t=0∨t=1 then some true else .none
 | .none=>if t=0 then some false else .none
 | .str _=>if t=0 then some false else .none
 | .tup _=>if t=2 then some true else if t=0 then some false else .none
 | .obj n=>(σ[n]?).bind fun o=>isiO o t
 | .ty u=>if 100≤u then isiE (u - 100) t else .none
 | _=>.none
noncomputable def twoV (f:Int→Int→Int) (σ:H) (as:List V):Option (V×H):=(arg2 as).bind fun p=>(asInt p.1).bind fun x=>(asInt p.2).map fun y=>(.int (f x y),σ)
noncomputable def intV (σ:H):V→Option (V×H)
 | .bool x=>some (.int (if x then 1 else 0),σ)
 | .int x=>some (.int x,σ)
 | _=>.none
noncomputable def tyNo:V→Option Nat
 | .ty t=>some t
 | _=>.none
noncomputable def bltV (b:Blt) (as:List V) (σ:H):Option (V×H) :=
 match b with
 | .len=>(arg1 as).bind fun v=>(items σ v).map fun l=>(.int l.length,σ)
 | .max=>twoV (fun x y=>if x < y then y else x) σ as
 | .min=>twoV (fun x y=>if y < x then y else x) σ as
 | .sorted=>(arg1 as).bind fun v=>((listOf σ v).bind sortV).bind (mkList σ)
 | .int=>(arg1 as).bind (intV σ)
 | .list=>(arg1 as).bind fun v=>(listOf σ v).bind (mkList σ)
 | .sum=>.none
 | .isinstance=>(arg2 as).bind fun p=>(tyNo p.2).bind fun t=>(isiV σ p.1 t).map fun r=>(.bool r,σ)
noncomputable def setObj (σ:H) (n:Nat) (o:O):H:=σ.set n o
noncomputable def objNo:V→Option Nat
 | .obj n=>some n
 | _=>.none
noncomputable def appV (σ:H) (n:Nat) (l:List V) (as:List V):Option (V×H):=(arg1 as).bind fun x=>if l.length < lenMax then some (.none,setObj σ n (.list (l++[x]))) else .none
noncomputable def popV (σ:H) (n:Nat) (l:List V) (as:List V):Option (V×H):=if as=[] then l.getLast?.map fun x=>(x,setObj σ n (.list l.dropLast)) else .none
noncomputable def asBoolV:V→Option Bool
 | .bool b=>some b
 | _=>.none
noncomputable def asBools:List V→Option (List Bool)
 | []=>some []
 | v::r=>(asBoolV v).bind fun b=>(asBools r).map (b::·)
noncomputable def idxB (bs:List Bool) (b:Bool):Option Nat:=if bs.idxOf b < bs.length then some (bs.idxOf b) else .none
noncomputable def mthV (m:Mth) (o:V) (as:List V) (σ:H):Option (V×H):=(objNo o).bind fun n=>(listOf σ o).bind fun l=>match m with
 | .append=>appV σ n l as
 | .pop=>popV σ n l as
 | .index=>(arg1 as).bind fun v=>(asBoolV v).bind fun b=>(asBools l).bind fun bs=>(idxB bs b).map fun j=>(.int (j:Nat),σ)
noncomputable def nsOf (σ:H):V→Option (Nat×List (Nat×V))
 | .obj n=>match σ[n]? with
  | some (.inst _ d)=>match σ[d]? with
   | some (.ns l)=>some (d,l)
   | _=>.none
  | _=>.none
 | _=>.none
noncomputable def V.isNone:V→Bool
 | .none=>true
 | _=>false
noncomputable def nsPut:List (Nat×V)→Nat→V→List (Nat×V)
 | [],a,v=>[(a,v)]
 | (b,w)::r,a,v=>if b=a then (b,v)::r else (b,w)::nsPut r a v
inductive Mode where | pure | fresh | raw
 deriving DecidableEq
structure Fn where
 ps:List Nat
 size:Nat
 body:Ss
 mode:Mode
structure Pg where
 fn:Nat→Option Fn
 mt:Nat→Nat→Option Nat
 init:Nat→Option Nat
noncomputable def methOf (pg:Pg) (σ:H):V→Nat→Option Nat
 | .obj n,m=>match σ[n]? with
  | some (.inst c d)=>match σ[d]? with
   | some (.ns _)=>pg.mt c m
   | _=>.none
  | _=>.none
 | _,_=>.none
mutual
noncomputable def below (n:Nat):V→Bool
 | .obj m=>decide (m < n)
 | .tup l=>belows n l
 | _=>true
noncomputable def belows (n:Nat):List V→Bool
 | []=>true
 | v::r=>below n v && belows n r
end
open Classical in
noncomputable def gcP (σ:H) (r:R V) (σ':H):X V :=
 match r with
 | .ok v=>if σ'.take σ.length=σ∧below σ.length v=true then some (.ok v,σ) else .none
 | .exc c=>if σ'.take σ.length=σ then some (.exc c,σ) else .none
open Classical in
noncomputable def gcF (σ:H) (r:R V) (σ':H):X V :=
 match r with
 | .ok v=>(objNo v).bind fun m=>if σ'.take σ.length=σ then (if m < σ.length then some (.ok (.obj m),σ) else (listOf σ' (.obj m)).bind fun l=>if belows σ.length l=true then some (.ok (.obj σ.length),σ++[.list l]) else .none) else .none
 | .exc c=>if σ'.take σ.length=σ then some (.exc c,σ) else .none
noncomputable def gc (m:Mode) (σ:H) (x:X V):X V :=
 match m with
 | .raw=>x
 | .pure=>x.bind fun p=>gcP σ p.1 p.2
 | .fresh=>x.bind fun p=>gcF σ p.1 p.2
inductive Fl where
 | next
 | brk
 | ret (v:V)
 | exc (c:Nat)
abbrev Y:=Option (Fl×L×H)
noncomputable def bndY {α:Type} (x:X α) (ℓ:L) (f:α→H→Y):Y :=
 match x with
 | .none=>.none
 | some (.ok a,σ)=>f a σ
 | some (.exc c,σ)=>some (.exc c,ℓ,σ)
@[simp] theorem bndY_none {α:Type} (ℓ:L) (f:α→H→Y):bndY (.none:X α) ℓ f=.none:=rfl
@[simp] theorem bndY_ok {α:Type} (a:α) (σ:H) (ℓ:L) (f:α→H→Y):bndY (some (.ok a,σ)) ℓ f=f a σ:=rfl
@[simp] theorem bndY_exc {α:Type} (c:Nat) (σ:H) (ℓ:L) (f:α→H→Y):bndY (some (.exc c,σ):X α) ℓ f=some (.exc c,ℓ,σ):=rfl
noncomputable def seqY (x:Y) (f:L→H→Y):Y :=
 match x with
 | some (.next,ℓ,σ)=>f ℓ σ
 | r=>r
set_option tactic.hygienic true in
@[simp] theorem seqY_next (ℓ:L) (σ:H) (f:L→H→Y):seqY (some (.next,ℓ,σ)) f=f ℓ σ:=rfl
@[simp] theorem seqY_ret (v:V) (ℓ:L) (σ:H) (f:L→H→Y):seqY (some (.ret v,ℓ,σ)) f=some (.ret v,ℓ,σ):=rfl
@[simp] theorem seqY_brk (ℓ:L) (σ:H) (f:L→H→Y):seqY (some (.brk,ℓ,σ)) f=some (.brk,ℓ,σ):=rfl
@[simp] theorem seqY_exc (c:Nat) (ℓ:L) (σ:H) (f:L→H→Y):seqY (some (.exc c,ℓ,σ)) f=some (.exc c,ℓ,σ):=rfl
@[simp] theorem seqY_none (f:L→H→Y):seqY .none f=.none:=rfl
noncomputable def setL (ℓ:L) (i:Nat) (v:V):Option L:=if i < ℓ.length then some (ℓ.set i (some v)) else .none
noncomputable def setMany:List Nat→List V→L→Option L
 | [],[],ℓ=>some ℓ
 | i::is,v::vs,ℓ=>(setL ℓ i v).bind (setMany is vs)
 | _,_,_=>.none
noncomputable def setTg (t:Tg) (v:V) (ℓ:L):Option L :=
 match t with
 | .one i=>setL ℓ i v
 | .three i j k=>(asTup v).bind fun vs=>setMany [i,j,k] vs ℓ
structure Src where
 vs:List V
 keep:H→Prop
noncomputable def bokY {α:Type} (x:X α) (f:α→H→Y):Y :=
 match x with
 | some (.ok a,σ)=>f a σ
 | _=>.none
theorem bokY_inv {α:Type}{x:X α}{f:α→H→Y}{r:Fl×L×H} (h:bokY x f=some r):∃a σ,x=some (.ok a,σ)∧f a σ=some r:=by
 cases x with
 | none=>exact nn h
 | some p=>
  refine byC fun hX=>?_;obtain ⟨q,σ⟩:=p;refine hX ?_;clear hX
  cases q with
  | ok a=>exact ⟨a,σ,rfl,h⟩
  | exc c=>exact nn h
noncomputable def turnY (y:Y) (k:L→H→Y):Y :=
 match y with
 | some (.next,ℓ,σ)=>k ℓ σ
 | some (.brk,ℓ,σ)=>some (.next,ℓ,σ)
 | some (.ret v,ℓ,σ)=>some (.ret v,ℓ,σ)
 | _=>.none
open Classical in
noncomputable def compL (body:L→H→X (Option V)) (tg:Nat) (keep:H→Prop):List V→List V→L→H→X (List V)
 | [],acc,_,σ=>some (.ok acc,σ)
 | v::r,acc,ℓ,σ=>(setL ℓ tg v).bind fun ℓ'=>bok (body ℓ' σ) fun y σ'=>if keep σ'∧acc.length < lenMax then compL body tg keep r (acc++y.toList) ℓ' σ' else .none
open Classical in
noncomputable def forL (body:L→H→Y) (t:Tg) (keep:H→Prop):List V→L→H→Y
 | [],ℓ,σ=>some (.next,ℓ,σ)
 | v::r,ℓ,σ=>(setTg t v ℓ).bind fun ℓ'=>turnY (body ℓ' σ) fun ℓ2 σ2=>if keep σ2 then forL body t keep r ℓ2 σ2 else .none
noncomputable def whileL (test:L→H→X V) (body:L→H→Y):Nat→L→H→Y
 | 0,_,_=>.none
 | n + 1,ℓ,σ=>bokY (test ℓ σ) fun v σ1=>(truth v).bind fun b=>if b then turnY (body ℓ σ1) fun ℓ2 σ2=>whileL test body n ℓ2 σ2 else some (.next,ℓ,σ1)
noncomputable def whileMax:Nat:=2 ^ 16
structure Cl where
 pg:Pg
 call:Nat→List V→H→X V
noncomputable def rngL (a b:Int):List V:=(List.range (b - a).toNat).map fun k=>V.int (a + (k:Nat))
mutual
noncomputable def evalE (C:Cl):Ex→L→H→X V
 | .lit v,_,σ=>some (.ok v,σ)
 | .var i,ℓ,σ=>okX (ℓ[i]?.join) σ
 | .ty t,_,σ=>if t < 100 then some (.ok (.ty t),σ) else .none
 | .bin op a b,ℓ,σ=>bok (evalE C a ℓ σ) fun x σ1=>bok (evalE C b ℓ σ1) fun y σ2=>okH (binop op x y σ2)
 | .neg a,ℓ,σ=>bok (evalE C a ℓ σ) fun x σ1=>match x with
  | .int i=>some (.ok (.int (-i)),σ1)
  | _=>.none
 | .not a,ℓ,σ=>bok (evalE C a ℓ σ) fun x σ1=>okX ((truth x).map fun b=>V.bool (!b)) σ1
 | .and a b,ℓ,σ=>bok (evalE C a ℓ σ) fun x σ1=>match truth x with
  | some true=>evalE C b ℓ σ1
  | some false=>some (.ok x,σ1)
  | .none=>.none
 | .or a b,ℓ,σ=>bok (evalE C a ℓ σ) fun x σ1=>match truth x with
  | some true=>some (.ok x,σ1)
  | some false=>evalE C b ℓ σ1
  | .none=>.none
 | .cmp a r,ℓ,σ=>bok (evalE C a ℓ σ) fun x σ1=>evalCh C x r ℓ σ1
 | .ife c a b,ℓ,σ=>bok (evalE C c ℓ σ) fun x σ1=>match truth x with
  | some true=>evalE C a ℓ σ1
  | some false=>evalE C b ℓ σ1
  | .none=>.none
 | .tup es,ℓ,σ=>bok (evalEs C es ℓ σ) fun vs σ1=>if vs.length≤lenMax then some (.ok (.tup vs),σ1) else .none
 | .lst es,ℓ,σ=>bok (evalEs C es ℓ σ) fun vs σ1=>okH (mkList σ1 vs)
 | .idx a i,ℓ,σ=>bok (evalE C a ℓ σ) fun x σ1=>bok (evalE C i ℓ σ1) fun y σ2=>okX (getIdx σ2 x y) σ2
 | .slc a lo hi st, ℓ, σ => bok (evalE C a ℓ σ) fun x σ1 => bok (evalOe C lo ℓ σ1) fun l σ2 => bok (evalOe C hi ℓ σ2) fun u σ3 => bok (evalOe C st ℓ σ3) fun s σ4 =>
   okH (sliceV σ4 x l u s)
 | .comp elt tg it ifs, ℓ, σ => bok (evalIt C it ℓ σ) fun src σ1 =>
   bok (compL (fun ℓ' σ'=>bok (evalIfs C ifs ℓ' σ') fun b σ2=>if b then bok (evalE C elt ℓ' σ2) fun v σ3=>some (.ok (some v),σ3) else some (.ok .none,σ2)) tg src.keep src.vs [] ℓ σ1) fun vs σ2=>
    some (.ok (.obj σ2.length),σ2++[.list vs])
 | .call f as,ℓ,σ=>bok (evalEs C as ℓ σ) fun vs σ1=>C.call f vs σ1
 | .blt b as,ℓ,σ=>bok (evalEs C as ℓ σ) fun vs σ1=>okH (bltV b vs σ1)
 | .mth m o as,ℓ,σ=>bok (evalE C o ℓ σ) fun x σ1=>(listOf σ1 x).bind fun u_=>bok (evalEs C as ℓ σ1) fun vs σ2=>okH (mthV m x vs σ2)
 | .ucall m o as,ℓ,σ=>bok (evalE C o ℓ σ) fun x σ1=>(methOf C.pg σ1 x m).bind fun f=>bok (evalEs C as ℓ σ1) fun vs σ2=>C.call f (x::vs) σ2
 | .attr o a,ℓ,σ=>bok (evalE C o ℓ σ) fun x σ1=>okX ((nsOf σ1 x).bind fun p=>p.2.lookup a) σ1
 | .new c _,_,σ=>(C.pg.init c).bind fun f=>bok (C.call f [.obj (σ.length + 1)] (σ++[.ns []]++[.inst c σ.length])) fun r σ2=>if r.isNone then some (.ok (.obj (σ.length + 1)),σ2) else .none
noncomputable def evalEs (C:Cl):Es→L→H→X (List V)
 | .nil,_,σ=>some (.ok [],σ)
 | .cons e es,ℓ,σ=>bok (evalE C e ℓ σ) fun v σ1=>bok (evalEs C es ℓ σ1) fun vs σ2=>some (.ok (v::vs),σ2)
noncomputable def evalCh (C:Cl) (x:V):Ch→L→H→X V
 | .one op b,ℓ,σ=>bok (evalE C b ℓ σ) fun y σ1=>okX ((cmpop op x y σ1).map V.bool) σ1
 | .more op b r,ℓ,σ=>bok (evalE C b ℓ σ) fun y σ1=>match cmpop op x y σ1 with
  | some true=>evalCh C y r ℓ σ1
  | some false=>some (.ok (.bool false),σ1)
  | .none=>.none
noncomputable def evalOe (C:Cl):Oe→L→H→X V
 | .no,_,σ=>some (.ok .none,σ)
 | .yes e,ℓ,σ=>evalE C e ℓ σ
noncomputable def evalIt (C:Cl):It→L→H→X Src
 | .ex e,ℓ,σ=>bok (evalE C e ℓ σ) fun x σ1=>match x with
  | .tup l=>some (.ok ⟨l,fun u_=>True⟩,σ1)
  | .frz l=>some (.ok ⟨l.map .int,fun u_=>True⟩,σ1)
  | .obj n=>match σ1[n]? with
   | some (.list l)=>some (.ok ⟨l,fun σ'=>σ'[n]? = some (.list l)⟩,σ1)
   | _=>.none
  | _=>.none
 | .rng1 e,ℓ,σ=>bok (evalE C e ℓ σ) fun x σ1=>match x with
  | .int b=>if -lenMax≤b∧b≤lenMax then some (.ok ⟨rngL 0 b,fun u_=>True⟩,σ1) else .none
  | _=>.none
 | .exL e,ℓ,σ=>bok (evalE C e ℓ σ) fun x σ1=>(objNo x).bind fun n=>(listOf σ1 x).bind fun l=>some (.ok ⟨l,fun σ'=>σ'[n]? = some (.list l)⟩,σ1)
noncomputable def evalIfs (C:Cl):Es→L→H→X Bool
 | .nil,_,σ=>some (.ok true,σ)
 | .cons e es,ℓ,σ=>bok (evalE C e ℓ σ) fun v σ1=>match truth v with
  | some true=>evalIfs C es ℓ σ1
  | some false=>some (.ok false,σ1)
  | .none=>.none
end
noncomputable def noX {α:Type} (x:X α):X α:=bok x fun a σ=>some (.ok a,σ)
noncomputable def callX (C:Cl):Ex→L→H→X V
 | .call f as,ℓ,σ=>evalE C (.call f as) ℓ σ
 | e,ℓ,σ=>noX (evalE C e ℓ σ)
noncomputable def argsX (C:Cl):Es→L→H→X (List V)
 | .nil,_,σ=>some (.ok [],σ)
 | .cons e es,ℓ,σ=>bnd (callX C e ℓ σ) fun v σ1=>bnd (argsX C es ℓ σ1) fun vs σ2=>some (.ok (v::vs),σ2)
noncomputable def evalX (C:Cl):Ex→L→H→X V
 | .call f as,ℓ,σ=>bnd (argsX C as ℓ σ) fun vs σ1=>C.call f vs σ1
 | .ucall m o as,ℓ,σ=>evalE C (.ucall m o as) ℓ σ
 | e,ℓ,σ=>noX (evalE C e ℓ σ)
noncomputable def asStrV (v:V):Option Str:=match v with
 | .str s=>some s
 | _=>.none
open Classical in
noncomputable def backStr (σ:H) (x:X V):Y:=bokY x fun v σ'=>(asStrV v).bind fun w=>if σ'.take σ.length=σ then some (.ret (.str w),[],σ) else .none
noncomputable def caughtC (y:Y) (k i:Nat) (f:Nat→H→X V):Y :=
 match y with
 | some (.exc c,ℓ,σ)=>if (excSub c k=true∧c < 100)∧i < ℓ.length then backStr σ (f c σ) else .none
 | r=>r
set_option tactic.hygienic true in
mutual
noncomputable def exec (C:Cl):St→L→H→Y
 | .expr e,ℓ,σ=>bndY (evalX C e ℓ σ) ℓ fun u_ σ1=>some (.next,ℓ,σ1)
 | .asg t e,ℓ,σ=>bndY (evalX C e ℓ σ) ℓ fun v σ1=>(setTg t v ℓ).map fun ℓ'=>(Fl.next,ℓ',σ1)
 | .aset o a e,ℓ,σ=>bndY (evalX C e ℓ σ) ℓ fun v σ1=>bokY (evalE C o ℓ σ1) fun x σ2=>(nsOf σ2 x).map fun p=>(Fl.next,ℓ,setObj σ2 p.1 (.ns (nsPut p.2 a v)))
 | .iset _ _ _,_,_=>.none
 | .ret e,ℓ,σ=>bndY (evalX C e ℓ σ) ℓ fun v σ1=>some (.ret v,ℓ,σ1)
 | .ife c a b,ℓ,σ=>bokY (evalE C c ℓ σ) fun v σ1=>match truth v with
  | some true=>execs C a ℓ σ1
  | some false=>execs C b ℓ σ1
  | .none=>.none
 | .for_ t it b,ℓ,σ=>bokY (evalIt C it ℓ σ) fun src σ1=>forL (execs C b) t src.keep src.vs ℓ σ1
 | .whl c b,ℓ,σ=>whileL (evalE C c) (execs C b) whileMax ℓ σ
 | .brk,ℓ,σ=>some (.brk,ℓ,σ)
 | .pass,ℓ,σ=>some (.next,ℓ,σ)
 | .raise c,ℓ,σ=>some (.exc c,ℓ,σ)
 | .try_ b k i f,ℓ,σ=>caughtC (execs C b ℓ σ) k i fun j σ1=>C.call f [.ty (100 + j)] σ1
noncomputable def execs (C:Cl):Ss→L→H→Y
 | .nil,ℓ,σ=>some (.next,ℓ,σ)
 | .cons s ss,ℓ,σ=>seqY (exec C s ℓ σ) fun ℓ1 σ1=>execs C ss ℓ1 σ1
end
theorem bok_e {α β:Type}{x:X α}{f:α→H→X β}{r:R β×H}{P:Prop} (h:bok x f=some r) (k:∀a σ,x=some (.ok a,σ)→f a σ=some r→P):P :=
 let ⟨a,σ,h1,h2⟩:=bok_inv h;k a σ h1 h2
theorem bokY_e {α:Type}{x:X α}{f:α→H→Y}{r:Fl×L×H}{P:Prop} (h:bokY x f=some r) (k:∀a σ,x=some (.ok a,σ)→f a σ=some r→P):P :=
 let ⟨a,σ,h1,h2⟩:=bokY_inv h;k a σ h1 h2
noncomputable def retX (y:Y):X V :=
 match y with
 | some (.ret v,_,σ)=>some (.ok v,σ)
 | some (.next,_,σ)=>some (.ok .none,σ)
 | some (.exc c,_,σ)=>some (.exc c,σ)
 | _=>.none
@[simp] theorem retX_ret (v:V) (ℓ:L) (σ:H):retX (some (.ret v,ℓ,σ))=some (.ok v,σ):=rfl
set_option tactic.hygienic true in
@[simp] theorem retX_next (ℓ:L) (σ:H):retX (some (.next,ℓ,σ))=some (.ok .none,σ):=rfl
@[simp] theorem retX_exc (c:Nat) (ℓ:L) (σ:H):retX (some (.exc c,ℓ,σ))=some (.exc c,σ):=rfl
@[simp] theorem retX_none:retX .none=.none:=rfl
noncomputable def startL (F:Fn) (as:List V):Option L:=setMany F.ps as (List.replicate F.size .none)
noncomputable def callF (pg:Pg):Nat→Nat→List V→H→X V
 | 0,_,_,_=>.none
 | d + 1,f,as,σ=>(pg.fn f).bind fun F=>(startL F as).bind fun ℓ=>gc F.mode σ (retX (execs ⟨pg,callF pg d⟩ F.body ℓ σ))
structure Tabs where
 fns:List (Str×Nat)
 tys:List (Str×Nat)
 blts:List (Str×Blt)
 cls:List (Str×Nat)
 meths:List (Str×Nat)
 attrs:List (Str×Nat)
 excs:List (Str×Nat)
 loops:Bool
 hf:Str
noncomputable def tryT (T:Tabs):Tabs:=⟨T.fns,T.tys,T.blts,T.cls,T.meths,T.attrs,[],T.loops,T.hf⟩
noncomputable def sIsi : Str := "isinstance"
noncomputable def sLen : Str := "len"
noncomputable def quiet (T:Tabs):Tabs:=⟨[],T.tys++T.excs,[(sIsi,.isinstance),(sLen,.len)].filter (fun p=>T.blts.lookup p.1 == some p.2),[],[],[],[],false,T.hf⟩
structure CEnv where
 names:List (Str×NameKind)
 slots:List (Str×Nat)
 next:Nat
noncomputable def cConst:Const→Option V
 | .none=>some .none
 | .bool b=>some (.bool b)
 | .int i=>some (.int i)
 | .str s=>some (.str s)
 | _=>.none
noncomputable def cOp:Operator→Option Bop
 | .Add=>some .add
 | .Sub=>some .sub
 | .Mult=>some .mul
 | .FloorDiv=>some .fdiv
 | .Mod=>some .mod
 | .Pow=>some .pow
 | _=>.none
noncomputable def cCop:CmpOp→Cop
 | .Eq=>.eq | .NotEq=>.ne | .Lt=>.lt | .LtE=>.le | .Gt=>.gt | .GtE=>.ge | .Is=>.is | .IsNot=>.isnot | .In=>.mem | .NotIn=>.nmem
noncomputable def cVar (c:CEnv) (x:Str):Option Nat :=
 match c.names.lookup x with
 | some .local | some .cell => if x == ("__debug__" : Str) then .none else c.slots.lookup x
 | _=>.none
noncomputable def cName (T:Tabs) (c:CEnv) (x:Str):Option Ex :=
 match c.names.lookup x with
 | some .local | some .cell=>(cVar c x).map .var
 | some .globalImplicit => if x == ("__debug__" : Str) then .none else ((T.tys.lookup x).or (T.excs.lookup x)).map .ty
 | _=>.none
noncomputable def isGlob (c : CEnv) (x : Str) : Bool := c.names.lookup x == some .globalImplicit && !(x == ("__debug__" : Str))
noncomputable def compNames (c:CEnv) (sc:Scope):List (Str×NameKind) :=
 sc.names.map fun (n,k)=>if k == .free && c.names.lookup n == some .cell then (n,.cell) else (n,k)
noncomputable def compSlots (c:CEnv) (sc:Scope):List (Str×Nat) :=
 ((sc.names.filter fun p=>p.2 == .local).zipIdx.map fun p=>(p.1.1,c.next + p.2)) ++
 (sc.names.filterMap fun p=>if p.2 == .free && c.names.lookup p.1 == some .cell then (c.slots.lookup p.1).map fun j=>(p.1,j) else .none)
noncomputable def compC (c:CEnv) (sc:Scope):CEnv:=⟨compNames c sc,compSlots c sc,c.next + (sc.names.filter fun p=>p.2 == .local).length⟩
noncomputable def compOK (c:CEnv) (sc:Scope):Bool :=
 (sc.kind == .function) && !sc.isGenerator && !sc.isCoroutine && decide (sc.names.map (·.1)).Nodup && sc.names.all (fun p=>p.2 != .cell && (p.2 != .free || c.names.lookup p.1 == some .cell))
noncomputable def boolEx (op:BoolOp) (a b:Ex):Ex:=match op with | .And=>.and a b | .Or=>.or a b
noncomputable def Es.isNil:Es→Bool
 | .nil=>true
 | _=>false
noncomputable def cCall (T:Tabs) (c:CEnv) (f:Str) (as:Es):Option Ex :=
 if isGlob c f && T.loops then
  match T.fns.lookup f with
  | some n=>some (.call n as)
  | .none=>match T.blts.lookup f with
   | some b=>some (.blt b as)
   | .none=>match T.cls.lookup f with
    | some n=>if as.isNil then some (.new n .nil) else .none
    | .none=>.none
 else if isGlob c f && !T.loops then (T.blts.lookup f).map fun b=>.blt b as else .none
noncomputable def sAppend : Str := "append"
noncomputable def sPop : Str := "pop"
noncomputable def sIndex : Str := "index"
noncomputable def sRange : Str := "range"
noncomputable def sEnum : Str := "enumerate"
noncomputable def cMeth (T:Tabs) (m:Str) (o:Ex) (as:Es):Option Ex :=
 if m == sAppend then some (.mth .append o as)
 else if m == sPop then some (.mth .pop o as)
 else if m == sIndex then some (.mth .index o as)
 else if T.loops then (T.meths.lookup m).map fun k=>.ucall k o as else .none
noncomputable def isCall:Expr→Bool
 | .Call ..=>true
 | _=>false
noncomputable def nameIs:Expr→Option Str
 | .Name x _=>some x
 | _=>.none
noncomputable def cUn:UnaryOp→Ex→Option Ex
 | .USub,a=>some (.neg a)
 | .Not,a=>some (.not a)
 | _,_=>.none
noncomputable def cRng (f:Str) (xs:Es):Option It:=match xs with
 | .nil=>.none
 | .cons a r=>match r with
  | .nil=>if f == sRange then some (.rng1 a) else .none
  | .cons _ _=>.none
mutual
noncomputable def cE (T:Tabs):CEnv→Expr→Option Ex
 | _,.Constant k _ _=>(cConst k).map .lit
 | c,.Name x _=>cName T c x
 | c,.BinOp l op r _=>(cE T c l).bind fun a=>(cOp op).bind fun o=>(cE T c r).map fun b=>.bin o a b
 | c,.UnaryOp op x _=>(cE T c x).bind fun a=>cUn op a
 | c,.BoolOp op vs _=>if 2≤vs.length then cB T op c vs else .none
 | c,.Compare l ops cs _=>(cE T c l).bind fun a=>(cCh T c ops cs).map fun r=>.cmp a r
 | c,.IfExp t b o _=>(cE T c t).bind fun x=>(cE T c b).bind fun y=>(cE T c o).map fun z=>.ife x y z
 | c,.Tuple es _ _=>(cEs T c es).map .tup
 | c,.List es _=>(cEs T c es).map .lst
 | c,.Subscript v s _=>(cE T c v).bind fun a=>(cS T c s).elim ((cE T c s).map fun i=>.idx a i) fun p=>some (.slc a p.1 p.2.1 p.2.2)
 | c,.ListComp elt gens sc _=>(cGen T sc c gens).bind fun g=>(cE T (compC c sc) elt).bind fun e=>if compOK c sc then some (.comp e g.1 g.2.1 g.2.2) else .none
 | c,.Call f as ks pos=>if ks.isEmpty∧as.length < 20 then (cEs T c as).bind fun xs=>cF T xs pos c f else .none
 | c,.Attribute o a _=>(cE T c o).bind fun x=>(T.attrs.lookup a).bind fun k=>if (nameIs o).isSome then some (.attr x k) else .none
 | _,_=>.none
noncomputable def cF (T:Tabs) (xs:Es) (pos:Pos):CEnv→Expr→Option Ex
 | c,.Name f _=>cCall T c f xs
 | c,.Attribute o m p=>(cE T c o).bind fun x=>if p.endLine == pos.line && !isCall o then cMeth T m x xs else .none
 | _,_=>.none
noncomputable def cS (T:Tabs):CEnv→Expr→Option (Oe×Oe×Oe)
 | c,.Slice lo hi st _=>(cO T c lo).bind fun x=>(cO T c hi).bind fun y=>(cO T c st).map fun z=>(x,y,z)
 | _,_=>.none
noncomputable def cO (T:Tabs):CEnv→Option Expr→Option Oe
 | _,.none=>some .no
 | c,some e=>(cE T c e).map .yes
noncomputable def cB (T:Tabs) (op:BoolOp):CEnv→List Expr→Option Ex
 | _,[]=>.none
 | c,e::r=>if r.isEmpty then cE T c e else (cE T c e).bind fun a=>(cB T op c r).map fun b=>boolEx op a b
noncomputable def cEs (T:Tabs):CEnv→List Expr→Option Es
 | _,[]=>some .nil
 | c,e::r=>(cE T c e).bind fun a=>(cEs T c r).map fun b=>.cons a b
noncomputable def cCh (T:Tabs):CEnv→List CmpOp→List Expr→Option Ch
 | _,_,[]=>.none
 | _,[],_::_=>.none
 | c,op::ops,e::es=>(cE T c e).bind fun a=>if es.isEmpty then (if ops.isEmpty then some (.one (cCop op) a) else .none) else (cCh T c ops es).map fun r=>.more (cCop op) a r
noncomputable def cR (T:Tabs):CEnv→Expr→Option It
 | c,.Call f as ks _=>if ks.isEmpty then (nameIs f).bind fun f=>if isGlob c f then (cEs T c as).bind (cRng f) else .none else .none
 | _,_=>.none
noncomputable def cGen (T:Tabs) (sc:Scope):CEnv→List Comprehension→Option (Nat×It×Es)
 | _,[]=>.none
 | c, ⟨tg, iter, ifs, async⟩ :: gs => if gs.isEmpty ∧ async = 0 then
   (nameIs tg).bind fun x=>(cVar (compC c sc) x).bind fun i=>if (compC c sc).names.lookup x=some .local then
    (if T.loops then (cR T c iter).elim ((cE T c iter).map .ex) some else (cE T c iter).map .exL).bind fun it=>(cEs T (compC c sc) ifs).map fun fs=>(i,it,fs) else .none
  else .none
end
noncomputable def isTup:Expr→Bool
 | .Tuple ..=>true
 | _=>false
noncomputable def cThree (c:CEnv) (es:List Expr):Option (Nat×Nat×Nat):=match es with
 | []=>.none
 | a::r=>match r with
  | []=>.none
  | b::r=>match r with
   | []=>.none
   | d::r=>if r.isEmpty then ((nameIs a).bind (cVar c)).bind fun i=>((nameIs b).bind (cVar c)).bind fun j=>((nameIs d).bind (cVar c)).map fun k=>(i,j,k) else .none
noncomputable def cTo (T:Tabs) (c:CEnv) (e:Expr) (v:Ex):Expr→Option St
 | .Name x _=>(cVar c x).map fun i=>.asg (.one i) v
 | .Tuple ts _ _=>if T.loops && !isTup e then (cThree c ts).map fun k=>.asg (.three k.1 k.2.1 k.2.2) v else .none
 | .Attribute o a _=>(cE T c o).bind fun x=>(T.attrs.lookup a).bind fun k=>if (nameIs o).isSome then some (.aset x k v) else .none
 | .Subscript o i _=>(cE T c o).bind fun x=>(cE T c i).map fun k=>.iset x k v
 | _=>.none
noncomputable def cAsg (T:Tabs) (c:CEnv) (e:Expr) (v:Ex):List Expr→Option St
 | []=>.none
 | t::ts=>if ts.isEmpty then cTo T c e v t else .none
noncomputable def isStrC:Const→Bool
 | .str _=>true
 | _=>false
noncomputable def isStrE:Expr→Bool
 | .Constant k _ _=>isStrC k
 | _=>false
noncomputable def oneStr:List Expr→Bool
 | []=>false
 | e::r=>isStrE e && r.isEmpty
noncomputable def cRaiseE (T:Tabs) (c:CEnv):Expr→Option St
 | .Call f as ks _=>(nameIs f).bind fun x=>if isGlob c x && oneStr as && ks.isEmpty && T.loops then (T.excs.lookup x).map .raise else .none
 | _=>.none
noncomputable def cRaise (T:Tabs) (c:CEnv) (e k:Option Expr):Option St:=if k.isNone then e.bind (cRaiseE T c) else .none
noncomputable def cIter (T:Tabs) (c:CEnv) (e:Expr):Option It:=(cR T c e).elim ((cE T c e).map .ex) some
noncomputable def cFor (T:Tabs) (c:CEnv) (t i:Expr):Option (Ss→St):=match t with
 | .Name x _=>(cVar c x).bind fun k=>(cIter T c i).map fun y=>.for_ (.one k) y
 | _=>.none
noncomputable def cHead (T:Tabs) (c:CEnv) (t:Option Expr) (x:Option Str):Option (Nat×Nat) :=
 (t.bind nameIs).bind fun f=>if isGlob c f then (T.excs.lookup f).bind fun k=>x.bind fun n=>if c.names.lookup n=some .local then (cVar c n).map fun i=>(k,i) else .none else .none
noncomputable def cRetF (T:Tabs) (c:CEnv) (n:Str):Stmt→Option Nat
 | .Return v _=>v.bind fun e=>match e with
  | .Call f as ks _=>(nameIs f).bind fun f=>if isGlob c f && ks.isEmpty && (as.length == 1) && as.all (fun a=>nameIs a == some n) && f == T.hf then T.fns.lookup f else .none
  | _=>.none
 | _=>.none
noncomputable def cSole (T:Tabs) (c:CEnv) (n:Option Str) (b:List Stmt):Option Nat:=match b with
 | []=>.none
 | s::r=>if r.isEmpty then n.bind fun n=>cRetF T c n s else .none
noncomputable def cHs (T:Tabs) (c:CEnv) (hs:List ExceptHandler):Option (Nat×Nat×Nat):=match hs with
 | []=>.none
 | .ExceptHandler t n b _::hs=>if hs.isEmpty then (cHead T c t n).bind fun k=>(cSole T c n b).map fun f=>(k.1,k.2,f) else .none
noncomputable def isComp:Expr→Bool
 | .ListComp ..=>true
 | .SetComp ..=>true
 | .DictComp ..=>true
 | _=>false
noncomputable def cRet (T:Tabs) (c:CEnv):Option Expr→Option St
 | some e=>(cE T c e).map .ret
 | .none=>some (.ret (.lit .none))
mutual
noncomputable def cSt (T:Tabs) (c:CEnv):Stmt→Option St
 | .Expr e _=>if isComp e then .none else (cE T c e).map .expr
 | .Assign ts v _=>(cE T c v).bind fun a=>cAsg T c v a ts
 | .Return v _=>cRet T c v
 | .If t a b _=>(cE T c t).bind fun x=>(cSs T c a).bind fun y=>(cSs T c b).map fun z=>.ife x y z
 | .For t i b o _=>if o.isEmpty∧T.loops then (cFor T c t i).bind fun x=>(cSs T c b).map fun z=>x z else .none
 | .While t b o _=>if o.isEmpty then (cE T c t).bind fun x=>(cSs T c b).map fun y=>.whl x y else .none
 | .Break _=>some .brk
 | .Pass _=>some .pass
 | .Raise e k _=>cRaise T c e k
 | .Try b hs o f _=>if o.isEmpty∧f.isEmpty∧T.loops then (cSs (tryT T) c b).bind fun x=>(cHs T c hs).map fun h=>.try_ x h.1 h.2.1 h.2.2 else .none
 | _=>.none
noncomputable def cSs (T:Tabs) (c:CEnv):List Stmt→Option Ss
 | []=>some .nil
 | s::r=>(cSt T c s).bind fun a=>(cSs T c r).map fun b=>.cons a b
end
noncomputable def ownOf (names:List (Str×NameKind)):List (Str×NameKind):=names.filter fun p=>p.2 == .local || p.2 == .cell
noncomputable def slotsOf (names:List (Str×NameKind)):List (Str×Nat):=(ownOf names).zipIdx.map fun p=>(p.1.1,p.2)
noncomputable def fnC (sc:Scope):CEnv:=⟨sc.names,slotsOf sc.names,(ownOf sc.names).length⟩
noncomputable def cFn (T:Tabs) (mode:Mode) (extra:Nat) (as:Arguments) (sc:Scope) (body:List Stmt):Option Fn :=
 ((as.args.map (·.arg)).mapM (fun x=>(slotsOf sc.names).lookup x)).bind fun ps=>(cSs T (fnC sc) body).map fun b=>⟨ps,(ownOf sc.names).length + extra,b,mode⟩
noncomputable def fnNames : List (Str × Nat) := [(Str.ofString "meet", 0), (Str.ofString "need_whole", 1), (Str.ofString "need_span", 2), (Str.ofString "stretch_of", 3), (Str.ofString "gaps_of", 4), (Str.ofString "clumps_of", 5), (Str.ofString "deepest_of", 6), (Str.ofString "height_of", 7), (Str.ofString "made", 8), (Str.ofString "balanced", 9), (Str.ofString "with_one", 10), (Str.ofString "least_of", 11), (Str.ofString "without", 12), (Str.ofString "has", 13), (Str.ofString "walked", 14), (Str.ofString "asked", 15), (Str.ofString "_law_at", 16), (Str.ofString "_law_made", 17), (Str.ofString "_wall", 18), (Str.ofString "_law_thing", 19), (Str.ofString "_law_number", 20), (Str.ofString "_law_good", 21), (Str.ofString "_law_called", 22), (Str.ofString "_law_named", 23), (Str.ofString "_law_word", 24), (Str.ofString "_law_is_int", 25), (Str.ofString "_law_tuple_is", 26), (Str.ofString "_law_list_is", 27), (Str.ofString "_law_row", 28), (Str.ofString "_law_ask", 29), (Str.ofString "_law_gaps", 30), (Str.ofString "_law_clump", 31), (Str.ofString "_law_triple", 32), (Str.ofString "_law_over", 33), (Str.ofString "_law_run", 34), (Str.ofString "_law_near", 35), (Str.ofString "_law_picked", 36), (Str.ofString "_law_big", 37), (Str.ofString "_law_deeds", 38), (Str.ofString "_law_behind", 39), (Str.ofString "_law_done", 40), (Str.ofString "_law_spots", 41), (Str.ofString "_law_box", 42), (Str.ofString "_law_under", 43), (Str.ofString "_law_stands", 44), (Str.ofString "_law_do", 45), (Str.ofString "_law_told", 46), (Str.ofString "_law_spot", 47), (Str.ofString "_law_looked", 48), (Str.ofString "_law_least", 49), (Str.ofString "_law_quick", 50), (Str.ofString "_law_parts", 51), (Str.ofString "_law_deepest", 52), (Str.ofString "_law_clumps", 53), (Str.ofString "_law_gaps_of", 54), (Str.ofString "_law_hang", 55), (Str.ofString "_law_rest", 56), (Str.ofString "_law_balanced", 57), (Str.ofString "_law_deep", 58), (Str.ofString "_law_own", 59), (Str.ofString "law", 60)]
noncomputable def methNames : List (Str × Nat) := [(Str.ofString "__init__", 0), (Str.ofString "put", 1), (Str.ofString "take", 2), (Str.ofString "keeps", 3), (Str.ofString "listed", 4), (Str.ofString "total", 5), (Str.ofString "meeting", 6), (Str.ofString "holding", 7), (Str.ofString "looked", 8), (Str.ofString "gaps", 9), (Str.ofString "clumps", 10), (Str.ofString "deepest", 11), (Str.ofString "branch", 12), (Str.ofString "height", 13), (Str.ofString "boxes", 14)]
noncomputable def tyNames : List (Str × Nat) := [(Str.ofString "int", 0), (Str.ofString "bool", 1), (Str.ofString "tuple", 2), (Str.ofString "list", 3), (Str.ofString "ValueError", 4)]
noncomputable def bltNames : List (Str × Blt) := [(Str.ofString "len", .len), (Str.ofString "max", .max), (Str.ofString "min", .min), (Str.ofString "sorted", .sorted), (Str.ofString "int", .int), (Str.ofString "list", .list), (Str.ofString "sum", .sum), (Str.ofString "isinstance", .isinstance)]
abbrev tupObj (vs : List Value) : Obj := { cls := .type "tuple", data := .seq vs.toArray }
abbrev listObj (vs : List Value) (n : Nat) : Obj := { cls := .type "list", data := .seq vs.toArray n }
structure Kx where
 prog:Program
 w:World
 h0:Heap
 tyv:Nat→Value
 fna:Nat→Addr
 clv:Nat→Value
 ex:Option Nat
abbrev Kx.M (K:Kx):Model:=model K.prog K.w
variable {ρ ρ' ρ1:List Addr}{σ σ' σ1:H}{s s' s1:Shared}{h h':Heap}{ℓ ℓ':L}
mutual
inductive RV (K:Kx) (ρ:List Addr) (h:Heap):V→Value→Prop
 | none:RV K ρ h .none .none
 | bool (b):RV K ρ h (.bool b) (.bool b)
 | int (i t):RV K ρ h (.int i) (.int i t)
 | str (s t):RV K ρ h (.str s) (.str s t)
 | tup {l a vs}:h.get? a=some (tupObj vs)→RVs K ρ h l vs→l.length≤lenMax→RV K ρ h (.tup l) (.ref a)
 | obj {n a}:ρ[n]? = some a→RV K ρ h (.obj n) (.ref a)
 | ty (t):t < 100∨K.ex=some t→RV K ρ h (.ty t) (K.tyv t)
 | frz {l a vs n}:K.h0.get? a=some (listObj vs n)→RVs K ρ h (l.map V.int) vs→l.length≤lenMax→RV K ρ h (.frz l) (.ref a)
inductive RVs (K:Kx) (ρ:List Addr) (h:Heap):List V→List Value→Prop
 | nil:RVs K ρ h [] []
 | cons {v l x vs}:RV K ρ h v x→RVs K ρ h l vs→RVs K ρ h (v::l) (x::vs)
end
noncomputable def atn (k : Nat) : Str := if k = 0 then "top" else "many"
theorem atn_ne:atn 0≠atn 1:=by decide
noncomputable def OR (K:Kx) (ρ:List Addr) (h:Heap) (a:Addr):O→Prop
 | .list l=>∃vs n,h.get? a=some (listObj vs n)∧RVs K ρ h l vs∧l.length≤lenMax
 | .inst c d=>∃o C ad,h.get? a=some o∧K.clv c=.ref C∧o.cls=.ref C∧(∀x,o.data≠.cls x)∧o.dict=some ad∧ρ[d]? = some ad
 | .ns l=>∃m,h.Ns1 a m∧(∀x,m x≠.none→x∈[atn 0,atn 1])∧∀k v,l.lookup k=some v→k < 2∧∃cv,m (atn k)=some cv∧RV K ρ h v cv
structure HR (K:Kx) (ρ:List Addr) (σ:H) (h:Heap):Prop where
 keep:∀b o,K.h0.get? b=some o→h.get? b=some o
 len:ρ.length=σ.length
 nd:ρ.Nodup
 new:∀a∈ρ,K.h0.get? a=none
 obj:∀(n:Nat) o a,σ[n]? = some o→ρ[n]? = some a→OR K ρ h a o
noncomputable def dy (o:Obj):Prop:=∃es ep,o.data=.dict es ep
theorem nfT {vs:List Value}:¬ dy (tupObj vs):=fun ⟨_,_,e⟩=>by cases e
theorem nfL {vs:List Value}{n:Nat}:¬ dy (listObj vs n):=fun ⟨_,_,e⟩=>by cases e
open Classical in
noncomputable def nrm (o:Obj):Obj:=if dy o then { o with slots:=#[] } else o
noncomputable def ng (h:Heap) (b:Addr):Option Obj:=(h.get? b).map nrm
theorem nrm_cls (o:Obj):(nrm o).cls=o.cls:=by unfold nrm;split <;> rfl
theorem nrm_data (o:Obj):(nrm o).data=o.data:=by unfold nrm;split <;> rfl
theorem nrm_dict (o:Obj):(nrm o).dict=o.dict:=by unfold nrm;split <;> rfl
theorem nrm_ne {o:Obj} (h:¬ dy o):nrm o=o:=if_neg h
theorem dy_nrm {o:Obj}:dy (nrm o)↔dy o:=by unfold dy;rw [nrm_data]
theorem ng_of {b:Addr}{o:Obj} (e:h.get? b=some o):ng h b=some (nrm o):=by unfold ng;rw [e];rfl
theorem ng_some {b:Addr}{o:Obj} (e:ng h b=some o):∃o',h.get? b=some o'∧nrm o'=o:=Option.map_eq_some_iff.mp e
theorem ng_none {b:Addr}:ng h b=none↔h.get? b=none:=Option.map_eq_none_iff
theorem ng_ex {b:Addr}{o:Obj} (hc:¬ dy o) (e:ng h b=some (nrm o)):h.get? b=some o:=by
 refine rEA (fun o' e1 e2=>?_) (ng_some e)
 have hc':¬ dy o':=fun hd=>hc (dy_nrm.mp (by rw [← e2];exact dy_nrm.mpr hd))
 rw [nrm_ne hc',nrm_ne hc] at e2
 rw [e1,e2]
theorem ng_data {b:Addr}{o:Obj} (e:ng h b=some (nrm o)):∃o',h.get? b=some o'∧o'.data=o.data∧o'.cls=o.cls∧o'.dict=o.dict:=by
 refine rEA (fun o' e1 e2=>?_) (ng_some e)
 exact ⟨o',e1,by rw [← nrm_data o',e2,nrm_data],by rw [← nrm_cls o',e2,nrm_cls],by rw [← nrm_dict o',e2,nrm_dict]⟩
theorem ng_keep (hk:∀b o,h.get? b=some o→h'.get? b=some o) {b:Addr}{o:Obj} (e:ng h b=some o):ng h' b=some o:=by
 refine rEA (fun o' e1 hO2=>?_) (ng_some e);refine eqE hO2 ?_
 exact ng_of (hk _ _ e1)
theorem ng_keep1 {b:Addr} (hk:∀o,h.get? b=some o→h'.get? b=some o) {o:Obj} (e:ng h b=some o):ng h' b=some o:=by
 refine rEA (fun o' e1 hO2=>?_) (ng_some e);refine eqE hO2 ?_
 exact ng_of (hk _ e1)
structure Step (ρ:List Addr) (s:Shared) (ρ':List Addr) (s':Shared):Prop where
 pre:ρ <+: ρ'
 fr:∀b o,ng s.heap b=some o→b ∉ ρ→ng s'.heap b=some o
 fresh:∀a,a∈ρ'→a∈ρ∨s.heap.get? a=none
 gens:s'.gens=s.gens
 os:s'.os=s.os
theorem Step.refl (ρ:List Addr) (s:Shared):Step ρ s ρ s:=⟨List.prefix_refl _,fun u_ v_ e w_=>e,fun u_ h=>.inl h,rfl,rfl⟩
theorem Step.trans {ρ2:List Addr}{s2:Shared} (x:Step ρ s ρ1 s1) (y:Step ρ1 s1 ρ2 s2):Step ρ s ρ2 s2 where
 pre:=x.pre.trans y.pre
 fr:=fun b o e hb=>y.fr b o (x.fr b o e hb) fun h1=>by
  rcases x.fresh b h1 with h | h
  ·exact hb h
  ·rw [ng_none.mpr h] at e;exact nn e
 fresh:=fun a ha=>by
  rcases y.fresh a ha with h | h
  ·exact x.fresh a h
  ·by_cases hr:a∈ρ
   ·exact .inl hr
   ·right
    cases hg:s.heap.get? a with
    | none=>rfl
    | some o=>have:=x.fr a _ (ng_of hg) hr;rw [ng_none.mpr h] at this;exact nn this
 gens:=y.gens.trans x.gens
 os:=y.os.trans x.os
theorem Step.ex (x:Step ρ s ρ' s') {b:Addr}{o:Obj} (e:s.heap.get? b=some o) (hb:b ∉ ρ) (hc:¬ dy o):s'.heap.get? b=some o:=ng_ex hc (x.fr b _ (ng_of e) hb)
theorem OR.isSome {K:Kx}{a:Addr}{o:O} (x:OR K ρ h a o):∃ob,h.get? a=some ob∧∀vs,ob≠tupObj vs:=by
 cases o with
 | list l => revert x; refine rEEA fun vs n e u3_ => ?_; exact ⟨_, e, fun vs' h => absurd (congrArg Obj.cls h) (by show Value.type "list" ≠ Value.type "tuple"; decide)⟩
 | inst c d=>revert x;refine rEEEAAA fun ob C ad e u4_ h1 u6_=>?_;exact ⟨_,e,fun vs' h=>by rw [h] at h1;cases h1⟩
 | ns l=>revert x;refine rEA fun m hO1 u2_=>?_;revert hO1;refine rEEEAA fun ob es ep e h1 u5_=>?_;exact ⟨_,e,fun vs' h=>by rw [h] at h1;cases h1⟩
theorem HR.at_ {K:Kx} (x:HR K ρ σ h) {a:Addr} (ha:a∈ρ):∃ob,h.get? a=some ob∧∀vs,ob≠tupObj vs:=by
 refine rE (fun n hO1=>?_) (List.getElem_of_mem ha);obtain ⟨hn,rfl⟩:=hO1
 have hs:n < σ.length:=by rw [← x.len];exact hn
 exact (x.obj n _ _ (List.getElem?_eq_getElem hs) (List.getElem?_eq_getElem hn)).isSome
theorem pre_get {α:Type}{l l':List α} (hp:l <+: l') {n:Nat}{a:α} (e:l[n]? = some a):l'[n]? = some a:=by
 revert hp;refine rE fun t hO1=>?_;refine eqE hO1 ?_
 rw [List.getElem?_append_left (List.getElem?_eq_some_iff.mp e).1];exact e
theorem RVs.ind {K:Kx}{P:List V→List Value→Prop} (h0:P [] []) (h1:∀{v l x vs},RV K ρ h v x→RVs K ρ h l vs→P l vs→P (v::l) (x::vs)) {l:List V}{vs:List Value} (r:RVs K ρ h l vs):P l vs :=
 RVs.rec (motive_1:=fun u_ v_ w_=>True) (motive_2:=fun l vs u_=>P l vs) trivial (fun u_=>trivial) (fun u_ v_=>trivial) (fun u_ v_=>trivial) (fun u_ v_ w_ x_=>trivial) (fun u_=>trivial) (fun u_ v_=>trivial) (fun u_ v_ w_ x_=>trivial) h0 (fun a r u_ i=>h1 a r i) r
theorem RV.intI {K:Kx}{v:V}{x:Value} (r:RV K ρ h v x) {a:Int} (e:asInt v=some a):∃t,x=.int a t :=
 RV.casesOn (motive_1:=fun v x u_=>asInt v=some a→∃t,x=.int a t) r (fun e=>nn e) (fun u_ e=>nn e) (fun u_ t e=>⟨t,congrArg (fun z=>Value.int z t) (Option.some.inj e)⟩) (fun u_ v_ e=>nn e) (fun u_ v_ w_ e=>nn e) (fun u_ e=>nn e) (fun u_ v_ e=>nn e) (fun u_ v_ w_ e=>nn e) e
theorem RV.boolI {K:Kx}{v:V}{x:Value} (r:RV K ρ h v x) {a:Bool} (e:asBoolV v=some a):x=.bool a :=
 RV.casesOn (motive_1:=fun v x u_=>asBoolV v=some a→x=.bool a) r (fun e=>nn e) (fun u_ e=>congrArg Value.bool (Option.some.inj e)) (fun u_ v_ e=>nn e) (fun u_ v_ e=>nn e) (fun u_ v_ w_ e=>nn e) (fun u_ e=>nn e) (fun u_ v_ e=>nn e) (fun u_ v_ w_ e=>nn e) e
theorem RV.noneI {K:Kx}{v:V}{x:Value} (r:RV K ρ h v x) (e:v.isNone=true):x=.none :=
 RV.casesOn (motive_1:=fun v x u_=>v.isNone=true→x=.none) r (fun u_=>rfl) (fun u_ e=>ft e) (fun u_ v_ e=>ft e) (fun u_ v_ e=>ft e) (fun u_ v_ w_ e=>ft e) (fun u_ e=>ft e) (fun u_ v_ e=>ft e) (fun u_ v_ w_ e=>ft e) e
theorem RV.strI {K:Kx}{v:V}{x:Value} (r:RV K ρ h v x) {a:Str} (e:asStrV v=some a):∃t,x=.str a t :=
 RV.casesOn (motive_1:=fun v x u_=>asStrV v=some a→∃t,x=.str a t) r (fun e=>nn e) (fun u_ e=>nn e) (fun u_ v_ e=>nn e) (fun u_ t e=>⟨t,congrArg (fun z=>Value.str z t) (Option.some.inj e)⟩) (fun u_ v_ w_ e=>nn e) (fun u_ e=>nn e) (fun u_ v_ e=>nn e) (fun u_ v_ w_ e=>nn e) e
theorem RV.tupI {K:Kx}{v:V}{x:Value} (r:RV K ρ h v x) {l:List V} (e:asTup v=some l):∃a vs,x=.ref a∧h.get? a=some (tupObj vs)∧RVs K ρ h l vs∧l.length≤lenMax :=
 RV.casesOn (motive_1:=fun v x u_=>asTup v=some l→∃a vs,x=.ref a∧h.get? a=some (tupObj vs)∧RVs K ρ h l vs∧l.length≤lenMax) r (fun e=>nn e) (fun u_ e=>nn e) (fun u_ v_ e=>nn e) (fun u_ v_ e=>nn e) (fun h1 h2 h3 e=>Option.some.inj e ▸ ⟨_,_,rfl,h1,h2,h3⟩) (fun u_ e=>nn e) (fun u_ v_ e=>nn e) (fun u_ v_ w_ e=>nn e) e
theorem RV.objI {K:Kx}{v:V}{x:Value} (r:RV K ρ h v x) {n:Nat} (e:objNo v=some n):∃a,x=.ref a∧ρ[n]? = some a :=
 RV.casesOn (motive_1:=fun v x u_=>objNo v=some n→∃a,x=.ref a∧ρ[n]? = some a) r (fun e=>nn e) (fun u_ e=>nn e) (fun u_ v_ e=>nn e) (fun u_ v_ e=>nn e) (fun u_ v_ w_ e=>nn e) (fun ha e=>⟨_,rfl,Option.some.inj e ▸ ha⟩) (fun u_ v_ e=>nn e) (fun u_ v_ w_ e=>nn e) e
theorem RV.tyI {K:Kx}{v:V}{x:Value} (r:RV K ρ h v x) {n:Nat} (e:tyNo v=some n):x=K.tyv n∧(n < 100∨K.ex=some n) :=
 RV.casesOn (motive_1:=fun v x u_=>tyNo v=some n→x=K.tyv n∧(n < 100∨K.ex=some n)) r (fun e=>nn e) (fun u_ e=>nn e) (fun u_ v_ e=>nn e) (fun u_ v_ e=>nn e) (fun u_ v_ w_ e=>nn e) (fun u_ e=>nn e) (fun t ht e=>Option.some.inj (show some t=some n from e) ▸ ⟨rfl,ht⟩) (fun u_ v_ w_ e=>nn e) e
theorem RV.mono {K:Kx} (hp:ρ <+: ρ') (ht:∀a vs,h.get? a=some (tupObj vs)→h'.get? a=some (tupObj vs)) {v:V}{x:Value} (r:RV K ρ h v x):RV K ρ' h' v x :=
 RV.rec (motive_1:=fun v x u_=>RV K ρ' h' v x) (motive_2:=fun l vs u_=>RVs K ρ' h' l vs) .none .bool .int .str (fun e u_ n i=>.tup (ht _ _ e) i n) (fun e=>.obj (pre_get hp e)) .ty (fun e u_ n i=>.frz e i n) .nil (fun u_ v_ i j=>.cons i j) r
theorem RVs.mono {K:Kx} (hp:ρ <+: ρ') (ht:∀a vs,h.get? a=some (tupObj vs)→h'.get? a=some (tupObj vs)) {l:List V}{vs:List Value} (r:RVs K ρ h l vs):RVs K ρ' h' l vs :=
 RVs.ind (P:=RVs K ρ' h') .nil (fun a u_ i=>.cons (a.mono hp ht) i) r
structure Good (K:Kx) (ρ:List Addr) (s:Shared) (ρ':List Addr) (σ':H) (s':Shared):Prop where
 hr:HR K ρ' σ' s'.heap
 st:Step ρ s ρ' s'
theorem Good.refl {K:Kx} (x:HR K ρ σ s.heap):Good K ρ s ρ σ s:=⟨x,Step.refl ρ s⟩
theorem Good.trans {K:Kx}{ρ2:List Addr}{σ2:H}{s2:Shared} (x:Good K ρ s ρ1 σ1 s1) (y:Good K ρ1 s1 ρ2 σ2 s2):Good K ρ s ρ2 σ2 s2:=⟨y.hr,x.st.trans y.st⟩
theorem Good.tok {K:Kx} (x:Good K ρ s ρ' σ' s') (t:Nat):Good K ρ s ρ' σ' { s' with toks:=t } :=
 ⟨x.hr,⟨x.st.pre,x.st.fr,x.st.fresh,x.st.gens,x.st.os⟩⟩
theorem Ns1.ng {a:Addr}{m:Str→Option Value} (x:h.Ns1 a m) (k:∀o,ng h a=some o→ng h' a=some o):h'.Ns1 a m:=by
 revert x;refine rEEEAA fun o es ep e hd r=>?_
 refine rEAA (fun o' e1 e2 u3_=>?_) (ng_data (k _ (ng_of e)))
 exact ⟨o',es,ep,e1,e2.trans hd,r⟩
theorem OR.move {K:Kx}{a:Addr}{o:O} (x:OR K ρ h a o) (hp:ρ <+: ρ') (ht:∀b vs,h.get? b=some (tupObj vs)→h'.get? b=some (tupObj vs)) (hk:∀o,ng h a=some o→ng h' a=some o):OR K ρ' h' a o:=by
 cases o with
 | list l=>revert x;refine rEEAA fun vs n e r hl=>?_;exact ⟨vs,n,ng_ex nfL (hk _ (ng_of e)),r.mono hp ht,hl⟩
 | inst c d=>
  revert x;refine rEEEAAAAA fun ob C ad e h1 h2 h3 h4 h5=>?_
  refine rEAAA (fun o' e1 e2 e3 e4=>?_) (ng_data (hk _ (ng_of e)))
  exact ⟨o',C,ad,e1,h1,e3.trans h2,fun z=>by rw [e2];exact h3 z,e4.trans h4,pre_get hp h5⟩
 | ns l=>
  revert x;refine rEAA fun m h1 h2 h3=>?_
  exact ⟨m,Ns1.ng h1 hk,h2,fun k v hv=>let ⟨q,cv,q1,q2⟩:=h3 k v hv;⟨q,cv,q1,q2.mono hp ht⟩⟩
theorem OR.mono {K:Kx}{a:Addr}{o:O} (x:OR K ρ h a o) (hp:ρ <+: ρ') (hk:∀b o,h.get? b=some o→h'.get? b=some o):OR K ρ' h' a o :=
 x.move hp (fun u_ v_ e=>hk _ _ e) fun u_ e=>ng_keep hk e
theorem HR.grow {K:Kx} (x:HR K ρ σ h) (hk:∀b o,h.get? b=some o→h'.get? b=some o):HR K ρ σ h' :=
 ⟨fun b o e=>hk b o (x.keep b o e),x.len,x.nd,x.new,fun n o a h1 h2=>(x.obj n o a h1 h2).mono (List.prefix_refl _) hk⟩
theorem Good.grow {K:Kx} (x:HR K ρ σ s.heap) (hk:∀b o,s.heap.get? b=some o→h'.get? b=some o) (t:Nat):Good K ρ s ρ σ { s with heap:=h',toks:=t } :=
 ⟨x.grow hk,⟨List.prefix_refl _,fun b o e u_=>ng_keep hk e,fun u_ h=>.inl h,rfl,rfl⟩⟩
theorem HR.add {K:Kx} (x:HR K ρ σ h) {a:Addr}{o:O} (hna:a ∉ ρ) (h0:K.h0.get? a=none) (ho:OR K (ρ++[a]) h a o):HR K (ρ++[a]) (σ++[o]) h:=by
 refine ⟨x.keep,by simp [x.len],?_,fun b hb=>?_,fun n o' b h1 h2=>?_⟩
 ·rw [List.nodup_append];exact ⟨x.nd,by simp,fun b hb c hc e=>by simp at hc;exact hna (hc ▸ e ▸ hb)⟩
 ·rcases List.mem_append.mp hb with h | h
  ·exact x.new b h
  ·rw [List.mem_singleton.mp h];exact h0
 ·by_cases hn:n < σ.length
  ·rw [List.getElem?_append_left hn] at h1
   rw [List.getElem?_append_left (by rw [x.len];exact hn)] at h2
   exact (x.obj n o' b h1 h2).mono (List.prefix_append _ _) fun u_ v_ e=>e
  ·have hn' : n = σ.length := by
    have:=(List.getElem?_eq_some_iff.mp h1).1
    simp at this;lia
   subst hn'
   rw [List.getElem?_append_right (Nat.le_refl _)] at h1
   rw [List.getElem?_append_right (by rw [x.len];exact Nat.le_refl _)] at h2
   simp [x.len] at h1 h2
   rw [← h1,← h2];exact ho
theorem Good.alloc {K : Kx} (x : HR K ρ σ s.heap) {a : Addr} {o : O} (hk : ∀ b o, s.heap.get? b = some o → h'.get? b = some o) (ha : s.heap.get? a = none)
  (ho:OR K (ρ++[a]) h' a o) (t:Nat):Good K ρ s (ρ++[a]) (σ++[o]) { s with heap:=h',toks:=t }:=by
 have hna:a ∉ ρ:=fun hm=>by refine rEA (fun ob e u2_=>?_) (x.at_ hm);rw [ha] at e;exact nn e
 refine ⟨(x.grow hk).add hna ?_ ho,⟨List.prefix_append _ _,fun b o e u_=>ng_keep hk e,fun b hb=>?_,rfl,rfl⟩⟩
 ·cases hg:K.h0.get? a with
  | none=>rfl
  | some ob=>rw [x.keep a ob hg] at ha;exact ns ha
 ·rcases List.mem_append.mp hb with h | h
  ·exact .inl h
  ·rw [List.mem_singleton.mp h];exact .inr ha
theorem get?_size (h:Heap):h.get? h.objs.size=none:=by
 cases e:h.get? h.objs.size with
 | none=>rfl
 | some o=>exact absurd (Heap.lt_size e) (Nat.lt_irrefl _)
theorem Step.tups {K:Kx} (x:Step ρ s ρ' s') (hr:HR K ρ σ s.heap):∀a vs,s.heap.get? a=some (tupObj vs)→s'.heap.get? a=some (tupObj vs) :=
 fun a vs e=>x.ex e (fun ha=>by
  refine rEA (fun ob h1 h2=>?_) (hr.at_ ha)
  rw [e] at h1;obtain rfl:=Option.some.inj h1;exact h2 _ rfl) nfT
theorem RV.step {K:Kx}{v:V}{x:Value} (r:RV K ρ s.heap v x) (hr:HR K ρ σ s.heap) (st:Step ρ s ρ' s'):RV K ρ' s'.heap v x:=r.mono st.pre (st.tups hr)
theorem RVs.step {K:Kx}{v:List V}{x:List Value} (r:RVs K ρ s.heap v x) (hr:HR K ρ σ s.heap) (st:Step ρ s ρ' s'):RVs K ρ' s'.heap v x:=r.mono st.pre (st.tups hr)
theorem RVs.length {K:Kx}{l:List V}{vs:List Value} (r:RVs K ρ h l vs):l.length=vs.length :=
 RVs.ind (P:=fun l vs=>l.length=vs.length) rfl (fun u_ v_ i=>congrArg Nat.succ i) r
theorem RVs.consI {K:Kx}{v:V}{l:List V}{vs:List Value} (r:RVs K ρ h (v::l) vs):∃x ws,vs=x::ws∧RV K ρ h v x∧RVs K ρ h l ws :=
 RVs.ind (P:=fun l' vs=>∀v l,l'=v::l→∃x ws,vs=x::ws∧RV K ρ h v x∧RVs K ρ h l ws) (fun u_ v_ e=>nomatch e) (fun a b u_ v_ w_ e=>⟨_,_,rfl,(List.cons.inj e).1 ▸ a,(List.cons.inj e).2 ▸ b⟩) r v l rfl
theorem RVs.nilI {K:Kx}{vs:List Value} (r:RVs K ρ h [] vs):vs=[] :=
 List.eq_nil_of_length_eq_zero r.length.symm
theorem RVs.get {K:Kx}{l:List V}{vs:List Value} (r:RVs K ρ h l vs):∀{i:Nat}{v:V},l[i]? = some v→∃x,vs[i]? = some x∧RV K ρ h v x :=
 RVs.ind (P:=fun l vs=>∀{i:Nat}{v:V},l[i]? = some v→∃x,vs[i]? = some x∧RV K ρ h v x) (fun e=>nn e) (fun a u_ ih i v_ e=>by
  cases i with
  | zero=>refine siE e ?_;exact ⟨_,rfl,a⟩
  | succ i=>exact ih e) r
theorem RVs.append {K:Kx}{l:List V}{vs:List Value} (r:RVs K ρ h l vs) {l':List V}{vs':List Value} (r':RVs K ρ h l' vs'):RVs K ρ h (l++l') (vs++vs') :=
 RVs.ind (P:=fun l vs=>RVs K ρ h (l++l') (vs++vs')) r' (fun a u_ i=>.cons a i) r
theorem RVs.take {K:Kx}{l:List V}{vs:List Value} (r:RVs K ρ h l vs):∀n:Nat,RVs K ρ h (l.take n) (vs.take n) :=
 RVs.ind (P:=fun l vs=>∀n:Nat,RVs K ρ h (l.take n) (vs.take n)) (fun n=>by cases n <;> exact .nil) (fun a u_ i n=>by
  cases n with
  | zero=>exact .nil
  | succ n=>exact .cons a (i n)) r
theorem RVs.drop {K:Kx}{l:List V}{vs:List Value} (r:RVs K ρ h l vs):∀n:Nat,RVs K ρ h (l.drop n) (vs.drop n) :=
 RVs.ind (P:=fun l vs=>∀n:Nat,RVs K ρ h (l.drop n) (vs.drop n)) (fun n=>by cases n <;> exact .nil) (fun a r i n=>by
  cases n with
  | zero=>exact .cons a r
  | succ n=>exact i n) r
noncomputable def TR (K:Kx) (A:Around) {α:Type} (t:Sem α) (ρ:List Addr) (s:Shared) (σ':H) (P:List Addr→α→Shared→Prop):Prop :=
 wpAny K.M A t (fun a s'=>∃ρ',Good K ρ s ρ' σ' s'∧P ρ' a s') (fun u_ v_=>False) s
theorem TR.bind {K : Kx} {A : Around} {α β : Type} {m : Sem α} {f : α → Sem β} {σ2:H} {P : List Addr → α → Shared → Prop} {P' : List Addr → β → Shared → Prop}
  (h:TR K A m ρ s σ1 P) (h':∀ρ1 a s1,Good K ρ s ρ1 σ1 s1→P ρ1 a s1→TR K A (f a) ρ1 s1 σ2 P'):TR K A (m >>= f) ρ s σ2 P':=by
 refine wpAny_bind (wpAny_mono h (fun a s1 hq=>?_) fun u_ v_ f=>f.elim)
 revert hq;refine rEA fun ρ1 g1 p1=>?_
 refine wpAny_mono (h' ρ1 a s1 g1 p1) (fun b s2 hq=>?_) fun u_ v_ f=>f
 revert hq;refine rEA fun ρ2 g2 p2=>?_
 exact ⟨ρ2,g1.trans g2,p2⟩
theorem TR.mono {K:Kx}{A:Around}{α:Type}{t:Sem α}{P P':List Addr→α→Shared→Prop} (h:TR K A t ρ s σ' P) (hp:∀ρ' a s',Good K ρ s ρ' σ' s'→P ρ' a s'→P' ρ' a s'):TR K A t ρ s σ' P' :=
 wpAny_mono h (fun a s' hq=>let ⟨ρ',g,p⟩:=hq;⟨ρ',g,hp ρ' a s' g p⟩) fun u_ v_ f=>f
theorem TR.after {K : Kx} {A : Around} {α : Type} {t : Sem α} {P : List Addr → α → Shared → Prop} (g : Good K ρ s ρ1 σ1 s1) (h : TR K A t ρ1 s1 σ' P) :
  wpAny K.M A t (fun a s'=>∃ρ',Good K ρ s ρ' σ' s'∧P ρ' a s') (fun u_ v_=>False) s1 :=
 wpAny_mono h (fun u_ v_ hq=>let ⟨ρ',g',p⟩:=hq;⟨ρ',g.trans g',p⟩) fun u_ v_ f=>f
theorem TR.pure {K:Kx}{A:Around}{α:Type}{a:α}{P:List Addr→α→Shared→Prop} (x:HR K ρ σ s.heap) (p:P ρ a s):TR K A (pure a) ρ s σ P:=wpAny_pure ⟨ρ,Good.refl x,p⟩
theorem okX_inv {α:Type}{a:Option α}{b:α} (h:okX a σ=some (.ok b,σ')):a=some b∧σ'=σ:=by
 cases a with
 | none=>exact nn h
 | some a=>refine okE h ?_;exact ⟨rfl,rfl⟩
theorem okH_inv {α:Type}{a:Option (α×H)}{b:α} (h:okH a=some (.ok b,σ')):a=some (b,σ'):=by
 cases a with
 | none=>exact nn h
 | some a=>refine okE h ?_;rfl
theorem Ns.at {a:Addr}{m:Str→Option Value} (x:h.Ns a m) (k:∀o,h.get? a=some o→h'.get? a=some o):h'.Ns a m :=
 let ⟨o,es,ep,e,r⟩:=x;⟨o,es,ep,k o e,r⟩
theorem Ns.ng {a:Addr}{m:Str→Option Value} (x:h.Ns a m) (k:∀o,ng h a=some o→ng h' a=some o):h'.Ns a m:=by
 revert x;refine rEEEAA fun o es ep e hd r=>?_
 refine rEAA (fun o' e1 e2 u3_=>?_) (ng_data (k _ (ng_of e)))
 exact ⟨o',es,ep,e1,e2.trans hd,r⟩
theorem IsCell.at {a:Addr}{v:Option Value} (x:h.IsCell a v) (k:∀o,h.get? a=some o→h'.get? a=some o):h'.IsCell a v :=
 let ⟨o,e,r⟩:=x;⟨o,k o e,r⟩
theorem IsCell.ng {a:Addr}{v:Option Value} (x:h.IsCell a v) (k:∀o,ng h a=some o→ng h' a=some o):h'.IsCell a v:=by
 revert x;refine rEA fun o e hd=>?_
 refine rEAA (fun o' e1 e2 u3_=>?_) (ng_data (k _ (ng_of e)))
 exact ⟨o',e1,e2.trans hd⟩
theorem Ns.ex {a:Addr}{m:Str→Option Value} (x:h.Ns a m):∃o,h.get? a=some o:=let ⟨o,_,_,e,_⟩:=x;⟨o,e⟩
noncomputable def FF (K:Kx) (A:Around) (ρ:List Addr) (h:Heap):Prop:=∀fs,A.frames=some fs→∀env∈fs,env.scope.kind≠.module∧∃L o,env.frame=some L∧L ∉ ρ∧K.h0.get? L=none∧h.get? L=some o∧dy o
theorem FF.step {K:Kx}{A:Around} (x:FF K A ρ s.heap) (st:Step ρ s ρ' s'):FF K A ρ' s'.heap:=fun fs hf env he=>by
 refine rAEEAAAAEE (fun h1 L o h2 h3 h4 h5 es ep h6=>?_) (x fs hf env he)
 refine rEAA (fun o' e1 e2 u3_=>?_) (ng_data (st.fr L _ (ng_of h5) h3))
 refine ⟨h1,L,o',h2,fun hm=>?_,h4,e1,es,ep,e2.trans h6⟩
 rcases st.fresh L hm with h | h
 ·exact h3 h
 ·rw [h5] at h;exact ns h
theorem FF.keep {K:Kx}{A:Around} (x:FF K A ρ h) (hk:∀b o,h.get? b=some o→dy o→∃o',h'.get? b=some o'∧dy o'):FF K A ρ h':=fun fs hf env he=>by
 refine rAEEAAAA (fun h1 L o h2 h3 h4 h5 h6=>?_) (x fs hf env he)
 refine rEA (fun o' e1 e2=>?_) (hk L o h5 h6)
 exact ⟨h1,L,o',h2,h3,h4,e1,e2⟩
theorem FF.ns {K:Kx}{A:Around}{N:Addr}{m:Str→Option Value} (x:FF K A ρ h) (hk:∀b,b≠N→∀o,h.get? b=some o→h'.get? b=some o) (hn:h'.Ns N m):FF K A ρ h':=x.keep fun b o e hd=>by
 by_cases hb:b=N
 ·subst hb;revert hn;refine rEEEAA fun o' es ep e1 e2 u5_=>?_;exact ⟨o',e1,es,ep,e2⟩
 ·exact ⟨o,hk b hb o e,hd⟩
theorem FF.but {K:Kx}{A:Around}{N:Addr} (x:FF K A ρ h) (hk:∀b,b≠N→∀o,h.get? b=some o→h'.get? b=some o) (hn:∀o,h.get? N=some o→¬ dy o):FF K A ρ h':=x.keep fun b o e hd=>by
 by_cases hb:b=N
 ·subst hb;exact absurd hd (hn o e)
 ·exact ⟨o,hk b hb o e,hd⟩
structure FO (K:Kx) (A:Around) (env:Env) (c:CEnv) (ℓ:L) (ρ:List Addr) (h:Heap):Prop where
 kind:env.scope.kind=.function
 names:env.scope.names=c.names
 glob:env.globals=mainGlobals
 blts:env.builtins=builtinsNs
 ns:∃m,h.Ns env.locals m∧∀(x:Str) (i:Nat) v,c.names.lookup x=some .local→c.slots.lookup x=some i→ℓ[i]? = some (some v)→∃cv,m x=some cv∧RV K ρ h v cv
 cell:∀x,c.names.lookup x=some .cell→∃a o,env.cells.lookup x=some a∧h.IsCell a o∧∀(i:Nat) v,c.slots.lookup x=some i→ℓ[i]? = some (some v)→∃cv,o=some cv∧RV K ρ h v cv
 inj:∀x y i,c.slots.lookup x=some i→c.slots.lookup y=some i→x=y
 capart:∀x y a,(x,a)∈env.cells→(y,a)∈env.cells→x=y
 lnew:env.locals ∉ ρ∧K.h0.get? env.locals=none
 free:∀(i:Nat) v,c.next≤i→ℓ[i]?≠some (some v)
 lt:∀x i,c.slots.lookup x=some i→i < c.next
 ff:FF K A ρ h
 cnew:∀x a,(x,a)∈env.cells→a ∉ ρ∧K.h0.get? a=none∧a≠env.locals∧∃o,h.get? a=some o∧∀xs n,o.data≠.seq xs n
theorem FO.step {K:Kx}{A:Around}{env:Env}{c:CEnv} (x:FO K A env c ℓ ρ s.heap) (hr:HR K ρ σ s.heap) (st:Step ρ s ρ' s'):FO K A env c ℓ ρ' s'.heap where
 ff:=x.ff.step st
 kind:=x.kind
 names:=x.names
 glob:=x.glob
 blts:=x.blts
 ns:=by
  refine rEA (fun m hn hv=>?_) x.ns
  exact ⟨m,Ns.ng hn fun o e=>st.fr _ _ e x.lnew.1,fun y i v h1 h2 h3=>let ⟨cv,h4,h5⟩:=hv y i v h1 h2 h3;⟨cv,h4,h5.step hr st⟩⟩
 cell:=fun y hy=>by
  refine rEEAA (fun a o h1 h2 h3=>?_) (x.cell y hy)
  exact ⟨a,o,h1,IsCell.ng h2 fun o e=>st.fr _ _ e (x.cnew y a (mem_of_lookup h1)).1,fun i v h4 h5=>let ⟨cv,h6,h7⟩:=h3 i v h4 h5;⟨cv,h6,h7.step hr st⟩⟩
 inj:=x.inj
 capart:=x.capart
 free:=x.free
 lt:=x.lt
 lnew:=by
  refine ⟨fun hm=>?_,x.lnew.2⟩
  refine rEA (fun m hn u2_=>?_) x.ns
  refine rE (fun o e=>?_) (Ns.ex hn)
  rcases st.fresh _ hm with h | h
  ·exact x.lnew.1 h
  ·rw [e] at h;cases h
 cnew:=fun y a hy=>by
  refine rAAAEA (fun h1 h2 h3 o h4 h5=>?_) (x.cnew y a hy)
  refine rEAA (fun o' e1 e3 u3_=>?_) (ng_data (st.fr _ _ (ng_of h4) h1))
  refine ⟨fun hm=>?_,h2,h3,o',e1,by rw [e3];exact h5⟩
  rcases st.fresh _ hm with h | h
  ·exact h1 h
  ·rw [h4] at h;cases h
noncomputable def bltVal:Blt→Value
 | .len => .builtin "len"
 | .max => .builtin "max"
 | .min => .builtin "min"
 | .sorted => .builtin "sorted"
 | .int => .type "int"
 | .list => .type "list"
 | .sum => .builtin "sum"
 | .isinstance => .builtin "isinstance"
structure GK (K:Kx) (T:Tabs):Prop where
 g:∃mg mb,K.h0.Ns mainGlobals mg∧K.h0.Ns builtinsNs mb∧(∀x t,T.tys.lookup x=some t→mg x=some (K.tyv t)∨(mg x=none∧mb x=some (K.tyv t)))∧
  (∀x n,T.fns.lookup x=some n→mg x=some (.ref (K.fna n))∧∃o fd,K.h0.get? (K.fna n)=some o∧o.data=.func fd)∧
  (∀ x b, T.blts.lookup x = some b → mg x = none ∧ mb x = some (bltVal b)) ∧ mg sRange = none ∧ mb sRange = some (.type "range")
 g2:∃mg,K.h0.Ns mainGlobals mg∧(∀x k,T.cls.lookup x=some k→∃C,mg x=some (.ref C)∧K.clv k=.ref C)∧∀x k,T.excs.lookup x=some k→mg x=some (K.tyv k)∨(mg x=none∧∃mb,K.h0.Ns builtinsNs mb∧mb x=some (K.tyv k))
 lt:∀x t,T.tys.lookup x=some t∨T.excs.lookup x=some t→t < 100
noncomputable def PE (K:Kx) (A:Around) (env:Env) (c:CEnv) (cl:Cl) (e:Expr) (a:Ex):Prop :=
 ∀ℓ σ v σ',evalE cl a ℓ σ=some (.ok v,σ')→∀ρ s,HR K ρ σ s.heap→FO K A env c ℓ ρ s.heap→TR K A (eval e env) ρ s σ' fun ρ' cv s'=>RV K ρ' s'.heap v cv
section
variable {K:Kx}{A:Around}{env:Env}{c:CEnv}{cl:Cl}{T:Tabs}
theorem pe_const {k:Const}{n:Nat}{pos:Pos}{v:V} (h:cConst k=some v):PE K A env c cl (.Constant k n pos) (.lit v):=by
 intro ℓ σ v' σ' he ρ s hr fo
 cases he
 cases k <;> cases h
 ·exact wpAny_Constant_none ⟨ρ,Good.refl hr,.none⟩
 ·exact wpAny_Constant_bool ⟨ρ,Good.refl hr,.bool _⟩
 ·exact wpAny_Constant_int ⟨ρ,(Good.refl hr).tok _,.int _ _⟩
 ·exact wpAny_Constant_str ⟨ρ,(Good.refl hr).tok _,.str _ _⟩
set_option tactic.hygienic true in
theorem cVar_inv {x : Str} {i : Nat} (h : cVar c x = some i) : (c.names.lookup x = some .local ∨ c.names.lookup x = some .cell) ∧ (x == ("__debug__" : Str)) = false ∧ c.slots.lookup x = some i := by
 unfold cVar at h
 split at h
 ·rename_i hk
  split at h
  ·exact nn h
  ·rename_i hd;exact ⟨.inl hk,by simpa using hd,h⟩
 ·rename_i hk
  split at h
  ·exact nn h
  ·rename_i hd;exact ⟨.inr hk,by simpa using hd,h⟩
 ·exact nn h
theorem pe_var {x:Str}{pos:Pos}{i:Nat} (h:cVar c x=some i):PE K A env c cl (.Name x pos) (.var i):=by
 intro ℓ σ v σ' he ρ s hr fo
 refine rA (fun hj hO1=>?_) (okX_inv (show okX (ℓ[i]?.join) σ=some (.ok v,σ') from he));refine eqS hO1 ?_
 refine rAA (fun hk hd hs=>?_) (cVar_inv h)
 have hv:ℓ[i]? = some (some v):=by
  cases hl:ℓ[i]? with
  | none=>rw [hl] at hj;exact nn hj
  | some o=>rw [hl] at hj;simp at hj;rw [hj]
 refine wpAny_Name ?_ hd
 rcases hk with hk | hk
 ·refine rEA (fun m hn hm=>?_) fo.ns
  refine rEA (fun cv h1 h2=>?_) (hm x i v hk hs hv)
  exact wpAny_loadName_local fo.kind (show env.scope.names.lookup x=_ by rw [fo.names];exact hk) hn h1 ⟨ρ,Good.refl hr,h2⟩
 ·refine rEEAA (fun a o h1 h2 h3=>?_) (fo.cell x hk)
  refine byC fun hX=>?_;refine rEA (fun cv hO1 h4=>?_) (h3 i v hs hv);obtain rfl:=hO1;refine hX ?_;clear hX
  exact wpAny_loadName_cell fo.kind (show env.scope.names.lookup x=_ by rw [fo.names];exact hk) h1 h2 ⟨ρ,Good.refl hr,h4⟩
theorem glob_load {x : Str} {pos : Pos} {v : Value} {mg mb : Str → Option Value} {Q : Value → Shared → Prop} {E : Value → Shared → Prop} (hr : HR K ρ σ s.heap) (fo : FO K A env c ℓ ρ s.heap)
  (hk : c.names.lookup x = some .globalImplicit) (hd : (x == ("__debug__" : Str)) = false) (hg : K.h0.Ns mainGlobals mg) (hb : K.h0.Ns builtinsNs mb) (hv : mg x = some v ∨ (mg x = none ∧ mb x = some v)) (hq : Q v s) :
  wpAny K.M A (eval (.Name x pos) env) Q E s:=by
 refine Calls.Name_function_global fo.kind (show env.scope.names.lookup x=_ by rw [fo.names];exact hk) ?_ hd
 have hg':s.heap.Ns env.globals mg:=by rw [fo.glob];exact hg.keeps hr.keep
 rcases hv with hv | ⟨h1,h2⟩
 ·exact Calls.loadGlobal_global hg' hv hq
 ·exact Calls.loadGlobal_builtin hg' h1 (show s.heap.Ns env.builtins mb by rw [fo.blts];exact hb.keeps hr.keep) h2 hq
set_option tactic.hygienic true in
theorem pe_name (G:GK K T) {x:Str}{pos:Pos}{a:Ex} (h:cName T c x=some a):PE K A env c cl (.Name x pos) a:=by
 unfold cName at h
 split at h
 ·refine byC fun hX=>?_;obtain ⟨i,hi,rfl⟩:=Option.map_eq_some_iff.mp h;refine hX ?_;clear hX;exact pe_var hi
 ·refine byC fun hX=>?_;obtain ⟨i,hi,rfl⟩:=Option.map_eq_some_iff.mp h;refine hX ?_;clear hX;exact pe_var hi
 ·rename_i hk
  split at h
  ·exact nn h
  ·rename_i hd
   refine map_e (h) fun t ht=>?_
   intro ℓ σ v σ' he ρ s hr fo
   refine rEEAAA (fun mg mb hg hb hty u5_=>?_) G.g
   obtain ⟨ht100,he⟩ : t < 100∧some (R.ok (V.ty t),σ)=some (R.ok v,σ'):=by
    have he:(if t < 100 then some (R.ok (V.ty t),σ) else .none)=some (R.ok v,σ'):=he
    by_cases hc:t < 100
    ·rw [if_pos hc] at he;exact ⟨hc,he⟩
    ·rw [if_neg hc] at he;exact nn he
   refine okE he ?_
   have hd' : (x == ("__debug__" : Str)) = false := by simpa using hd
   cases hT:T.tys.lookup x with
   | some t'=>
    rw [hT] at ht
    obtain rfl:=Option.some.inj (show some t'=some t from ht)
    exact glob_load hr fo hk hd' hg hb (hty x _ hT) ⟨ρ,Good.refl hr,.ty _ (.inl ht100)⟩
   | none=>
    rw [hT] at ht
    refine byC fun hX=>?_;obtain ⟨mg2,hg2,_,hex⟩:=G.g2;refine hX ?_;clear hX
    rcases hex x t (show T.excs.lookup x=some t from ht) with hv | ⟨hv,mb2,hmb,hv2⟩
    ·exact glob_load hr fo hk hd' hg2 hb (.inl hv) ⟨ρ,Good.refl hr,.ty t (.inl ht100)⟩
    ·exact glob_load hr fo hk hd' hg2 hmb (.inr ⟨hv,hv2⟩) ⟨ρ,Good.refl hr,.ty t (.inl ht100)⟩
 ·exact nn h
end
end Mini.Internal
namespace Mini.Internal
open PySem PyProof.Rows
variable {ρ ρ' ρ1:List Addr}{σ σ' σ1:H}{s s' s1:Shared}{h h':Heap}{ℓ ℓ':L}
set_option tactic.hygienic true in
theorem intBits_of_natAbs {a:Int}{n:Nat} (h:a.natAbs < 2 ^ n):Builtin.Int.intBits a≤n:=by
 unfold Builtin.Int.intBits
 split
 ·exact Nat.zero_le _
 ·rename_i h0
  have hp:a.natAbs≠0:=by simpa using h0
  have:=(Nat.log2_lt hp).mpr h
  lia
theorem mulOK.ok {a b:Int} (h:mulOK a b):IntMulOk a b:=by
 rcases h with h | h | ⟨h1,h2⟩
 ·exact IntMulOk.of_left (intBits_of_natAbs h)
 ·exact IntMulOk.of_right (intBits_of_natAbs h)
 ·have e1:Builtin.Int.intBits a≤2 ^ 21:=intBits_of_natAbs h1
  have e2:Builtin.Int.intBits b≤2 ^ 21:=intBits_of_natAbs h2
  unfold IntMulOk Builtin.Int.intTooBig bitsLine
  simp only [Bool.and_eq_true,decide_eq_true_eq,not_and]
  intro _
  lia
set_option tactic.hygienic true in
theorem mkList_inv {l:List V}{v:V} (h:mkList σ l=some (v,σ')):l.length≤lenMax∧v=.obj σ.length∧σ'=σ++[.list l]:=by
 unfold mkList at h
 split at h
 ·rename_i hl;refine pE h ?_;exact ⟨hl,rfl,rfl⟩
 ·exact nn h
section
variable {K:Kx}{A:Around}
theorem good_list (hr : HR K ρ σ s.heap) {l : List V} {vs : List Value} (r : RVs K ρ s.heap l vs) (hl : l.length ≤ lenMax) {n : Nat} (t : Nat) :
  Good K ρ s (ρ++[s.heap.objs.size]) (σ++[.list l]) { s with heap:=s.heap.push (listObj vs n),toks:=t }∧RV K (ρ++[s.heap.objs.size]) (s.heap.push (listObj vs n)) (.obj σ.length) (.ref s.heap.objs.size):=by
 have hk:∀b o,s.heap.get? b=some o→(s.heap.push (listObj vs n)).get? b=some o:=fun b o e=>Heap.get?_push_of_some _ e
 refine ⟨Good.alloc (o:=.list l) hr hk (get?_size _) ⟨vs,n,Heap.get?_push_size _ rfl,r.mono (List.prefix_append _ _) (fun a vs e=>hk _ _ e),hl⟩ t,.obj ?_⟩
 rw [List.getElem?_append_right (by rw [hr.len];exact Nat.le_refl _),hr.len];simp
theorem good_tup (hr : HR K ρ σ s.heap) {l : List V} {vs : List Value} (r : RVs K ρ s.heap l vs) (hl : l.length ≤ lenMax) (t : Nat) :
  Good K ρ s ρ σ { s with heap:=s.heap.push (tupObj vs),toks:=t }∧RV K ρ (s.heap.push (tupObj vs)) (.tup l) (.ref s.heap.objs.size):=by
 have hk:∀b o,s.heap.get? b=some o→(s.heap.push (tupObj vs)).get? b=some o:=fun b o e=>Heap.get?_push_of_some _ e
 exact ⟨Good.grow hr hk t,.tup (Heap.get?_push_size _ rfl) (r.mono (List.prefix_refl _) fun a vs e=>hk _ _ e) hl⟩
set_option tactic.hygienic true in
theorem listOf_inv (hr : HR K ρ σ h) {v : V} {x : Value} {l : List V} (e : listOf σ v = some l) (r : RV K ρ h v x) :
  ∃a vs n,x=.ref a∧h.get? a=some (listObj vs n)∧RVs K ρ h l vs∧l.length≤lenMax:=by
 cases v with
 | obj n=>
  refine rEA (fun u0_ hO1 ha=>?_) (r.objI rfl);refine eqS hO1 ?_
  simp only [listOf] at e
  split at e
  ·rename_i l' hl
   obtain rfl:=Option.some.inj e
   refine rEEAA (fun vs n' h1 h2 h3=>?_) (hr.obj _ _ _ hl ha)
   exact ⟨_,vs,n',rfl,h1,h2,h3⟩
  ·exact nn e
 | frz l'=>
  cases r with
  | frz ha hv hn=>refine siE e ?_;exact ⟨_,_,_,rfl,hr.keep _ _ ha,hv,by simpa using hn⟩
 | _=>exact nn e
theorem list_len {l:List V}{vs:List Value} (r:RVs K ρ h l vs) (hl:l.length≤lenMax):vs.length≤sizeLine:=by
 rw [← r.length,sizeLine_eq];unfold lenMax at hl;exact ln1 [(.le .v0 (.k 1000000))] (.le .v0 (.k 16777216)) (.d 111) rfl hl
set_option tactic.hygienic true in
theorem arith_sound {op : Bop} {a b z : Int} (h : arith op a b = some z) {o : Operator} (ho : cOp o = some op) {t u : Tok} {Q : Value → Shared → Prop} {E : Value → Shared → Prop} (hq : ∀ t' n, Q (.int z t') { s with toks := n }) :
  wpAny K.M A (binaryOp o (.int a t) (.int b u)) Q E s:=by
 cases o <;> cases ho
 ·obtain rfl:=Option.some.inj h;exact add_int (hq _ _)
 ·obtain rfl:=Option.some.inj h;exact sub_int' (hq _ _)
 ·simp only [arith] at h
  split at h
  ·rename_i hm;obtain rfl:=Option.some.inj h;exact mul_int (hq _ _) hm.ok
  ·exact nn h
 ·simp only [arith] at h
  split at h
  ·rename_i hm;obtain rfl:=Option.some.inj h;exact mod_int' hm (hq _ _)
  ·exact nn h
 ·simp only [arith] at h
  split at h
  ·rename_i hm
   obtain rfl:=Option.some.inj h
   refine pow_int hm.1 ?_ (hq _ _)
   have h1:=intBits_of_natAbs hm.2.2
   exact Int.le_trans (Int.mul_le_mul (Int.ofNat_le.mpr h1) hm.2.1 hm.1 (by exact lin [] (.zle .k0 (.n (.k 64))) (.d 11) rfl [] [])) (by decide)
  ·exact nn h
 ·simp only [arith] at h
  split at h
  ·rename_i hm
   obtain rfl:=Option.some.inj h
   refine floordiv_int hm.1 (hq _ _) (.inl (PyProof.noPylong_of_log2 ?_))
   have:=(Nat.log2_lt (show (_:Int).natAbs≠0 by simpa using hm.1)).mpr hm.2
   lia
  ·exact nn h
theorem cat_sound {x y v:V} (h:catV σ x y=some (v,σ')) {cx cy:Value} (hr:HR K ρ σ s.heap) (rx:RV K ρ s.heap x cx) (ry:RV K ρ s.heap y cy):TR K A (binaryOp .Add cx cy) ρ s σ' fun ρ' cv s'=>RV K ρ' s'.heap v cv:=by
 refine bind_e (h) fun l1 h1 h=>?_
 refine bind_e (h) fun l2 h2 h=>?_
 refine byC fun hX=>?_;refine rAA (fun hl hO1 hO2=>?_) (mkList_inv h);obtain rfl:=hO1;obtain rfl:=hO2;refine hX ?_;clear hX
 refine rEEEAAA (fun a vs n hO3 g1 r1 u6_=>?_) (listOf_inv hr h1 rx);refine eqS hO3 ?_
 refine byC fun hX=>?_;refine rEEEAAA (fun b ws n2 hO3 g2 r2 u6_=>?_) (listOf_inv hr h2 ry);obtain rfl:=hO3;refine hX ?_;clear hX
 have hsz:vs.toArray.size + ws.toArray.size≤sizeLine:=by
  have:=list_len (r1.append r2) hl
  rw [List.length_append] at this;exact this
 refine concat_meets ⟨_,g1,rfl⟩ ⟨_,g2,rfl⟩ noFill_list_add seq_list_add PySem.F.slot_list_add PySem.F.entry_list_add (PySem.F.args_list_add_2 _ _) (list_addW a b vs.toArray ws.toArray n n2 none none #[] #[] hsz) ⟨g1,g2,?_⟩
 have e:vs.toArray++ws.toArray=(vs++ws).toArray:=List.append_toArray ..
 rw [e]
 refine rA (fun g rr=>?_) (good_list (n:=0) hr (r1.append r2) hl s.toks)
 exact ⟨_,g,rr⟩
set_option tactic.hygienic true in
theorem tup_sound {x:List V}{y v:V} (h:tupV σ x y=some (v,σ')) {cx cy:Value} (hr:HR K ρ σ s.heap) (rx:RV K ρ s.heap (.tup x) cx) (ry:RV K ρ s.heap y cy):TR K A (binaryOp .Add cx cy) ρ s σ' fun ρ' cv s'=>RV K ρ' s'.heap v cv:=by
 refine bind_e (h) fun l2 h2 h'=>?_
 clear h
 obtain rfl:=asTup_inv h2
 have h:=h';clear h'
 split at h
 ·rename_i hm
  refine byC fun hX=>?_;refine rA (fun hO0 hO1=>?_) (pJ h);obtain rfl:=hO0;obtain rfl:=hO1;refine hX ?_;clear hX
  refine byC fun hX=>?_;refine rEEAAA (fun a vs hO2 e1 r1 u5_=>?_) (rx.tupI rfl);obtain rfl:=hO2;refine hX ?_;clear hX
  refine byC fun hX=>?_;refine rEEAAA (fun b ws hO2 e2 r2 u5_=>?_) (ry.tupI rfl);obtain rfl:=hO2;refine hX ?_;clear hX
  have hl:(x++l2).length≤lenMax:=by rw [List.length_append];exact hm.2.2
  have hsz:vs.toArray.size + ws.toArray.size≤sizeLine:=by
   have:=list_len (r1.append r2) hl
   rw [List.length_append] at this;exact this
  have n1:¬ vs.toArray.isEmpty=true:=by
   have:=r1.length
   cases vs with
   | nil=>exact absurd (List.length_eq_zero_iff.mp this) hm.1
   | cons _ _=>simp
  have n2:¬ ws.toArray.isEmpty=true:=by
   have:=r2.length
   cases ws with
   | nil=>exact absurd (List.length_eq_zero_iff.mp this) hm.2.1
   | cons _ _=>simp
  refine concat_meets ⟨_,e1,rfl⟩ ⟨_,e2,rfl⟩ noFill_tuple_add seq_tuple_add PySem.F.slot_tuple_add PySem.F.entry_tuple_add (PySem.F.args_tuple_add_2 _ _) (tuple_addW2 a b vs.toArray ws.toArray 0 0 none none #[] #[] n1 n2 hsz) ⟨e1,e2,?_⟩
  have e:vs.toArray++ws.toArray=(vs++ws).toArray:=List.append_toArray ..
  rw [e]
  refine rA (fun g rr=>?_) (good_tup hr (r1.append r2) hl s.toks)
  exact ⟨_,g,rr⟩
 ·exact nn h
set_option tactic.hygienic true in
theorem str_sound {x:Str}{y v:V} (h:strV σ x y=some (v,σ')) {cx cy:Value} (hr:HR K ρ σ s.heap) (rx:RV K ρ s.heap (.str x) cx) (ry:RV K ρ s.heap y cy):TR K A (binaryOp .Mult cx cy) ρ s σ' fun ρ' cv s'=>RV K ρ' s'.heap v cv:=by
 refine bind_e (h) fun k h2 h'=>?_
 clear h
 obtain rfl:=asInt_inv h2
 have h:=h';clear h'
 refine byC fun hX=>?_;refine rE (fun u0_ hO1=>?_) (rx.strI rfl);obtain rfl:=hO1;refine hX ?_;clear hX;refine byC fun hX=>?_;refine rE (fun u0_ hO1=>?_) (ry.intI rfl);obtain rfl:=hO1;refine hX ?_;clear hX
 split at h
 ·rename_i hk
  subst hk;refine pE h ?_
  refine P.mul_str (by decide) (fun u_ hc=>by simp at hc) (fun u_ hc=>by simp at hc) ?_
  rw [if_neg (by decide),if_pos (by simp)]
  exact ⟨ρ,Good.refl hr,.str _ _⟩
 ·split at h
  ·rename_i hk
   subst hk;refine pE h ?_
   exact P.mul_str_none (by decide) (by decide) ⟨ρ,(Good.refl hr).tok _,.str _ _⟩
  ·exact nn h
theorem op_add {o:Operator} (h:cOp o=some .add):o=.Add:=by cases o <;> first | rfl | cases h
theorem op_mul {o:Operator} (h:cOp o=some .mul):o=.Mult:=by cases o <;> first | rfl | cases h
set_option tactic.hygienic true in
theorem binop_sound {op : Bop} {x y v : V} (h : binop op x y σ = some (v, σ')) {cx cy : Value} (hr : HR K ρ σ s.heap) (rx : RV K ρ s.heap x cx) (ry : RV K ρ s.heap y cy)
  {o:Operator} (ho:cOp o=some op):TR K A (binaryOp o cx cy) ρ s σ' fun ρ' cv s'=>RV K ρ' s'.heap v cv:=by
 cases x with
 | int a=>
  refine bind_e (h) fun b hb h=>?_
  obtain rfl:=asInt_inv hb
  refine mapn_e (h) fun z hz e=>?_
  refine byC fun hX=>?_;refine rA (fun hO0 hO1=>?_) (Prod.mk.inj e);obtain rfl:=hO0;obtain rfl:=hO1;refine hX ?_;clear hX;refine byC fun hX=>?_;refine rE (fun u0_ hO1=>?_) (rx.intI rfl);obtain rfl:=hO1;refine hX ?_;clear hX;refine byC fun hX=>?_;refine rE (fun u0_ hO1=>?_) (ry.intI rfl);obtain rfl:=hO1;refine hX ?_;clear hX
  exact arith_sound hz ho fun u_ v_=>⟨ρ,(Good.refl hr).tok _,.int _ _⟩
 | obj n=>
  simp only [binop] at h
  split at h
  ·rename_i e;subst e;rw [op_add ho];exact cat_sound h hr rx ry
  ·cases h
 | tup l=>
  simp only [binop] at h
  split at h
  ·rename_i e;subst e;rw [op_add ho];exact tup_sound h hr rx ry
  ·exact nn h
 | str l=>
  simp only [binop] at h
  split at h
  ·rename_i e;subst e;rw [op_mul ho];exact str_sound h hr rx ry
  ·exact nn h
 | _=>exact nn h
end
end Mini.Internal
namespace Mini.Internal
open PySem PyProof.Rows PySem.SeqAt
variable {ρ ρ' ρ1:List Addr}{σ σ' σ1:H}{s s' s1:Shared}{h h':Heap}{ℓ ℓ':L}
open AutoSeq1 (wpAny_loadPart')
section
variable {K:Kx}{A:Around}
theorem ltT_ints {v w:V}{l r:List V}{b:Bool} (e:ltT (v::l) (w::r)=some b):∃a c,v=.int a∧w=.int c:=by
 cases v with
 | int a=>
  cases w with
  | int c=>exact ⟨a,c,rfl,rfl⟩
  | _=>exact nn e
 | _=>cases w <;> exact nn e
theorem ltT_step {l r : List V} {vs ws : List Value} (r1 : RVs K ρ h l vs) (r2 : RVs K ρ h r ws) {b : Bool} (e : ltT l r = some b) (hv : vs ≠ []) (hw : ws ≠ []) :
  ∃a c t u l' r' vs' ws',vs=.int a t::vs'∧ws=.int c u::ws'∧RVs K ρ h l' vs'∧RVs K ρ h r' ws'∧(if a=c then ltT l' r'=some b else b=decide (a < c)):=by
 cases l with
 | nil=>exact absurd (r1.nilI) hv
 | cons v l'=>
  cases r with
  | nil=>exact absurd (r2.nilI) hw
  | cons w r'=>
   refine byC fun hX=>?_;refine rEEA (fun a c hO2 hO3=>?_) (ltT_ints e);obtain rfl:=hO2;obtain rfl:=hO3;refine hX ?_;clear hX
   refine byC fun hX=>?_;refine rEEAA (fun u0_ vs' hO2 x1 s1=>?_) (r1.consI);obtain rfl:=hO2;refine hX ?_;clear hX
   refine byC fun hX=>?_;refine rEEAA (fun u0_ ws' hO2 x2 s2=>?_) (r2.consI);obtain rfl:=hO2;refine hX ?_;clear hX
   refine byC fun hX=>?_;refine rE (fun t hO1=>?_) (x1.intI rfl);obtain rfl:=hO1;refine hX ?_;clear hX
   refine rE (fun u hO1=>?_) (x2.intI rfl);refine eqS hO1 ?_
   refine ⟨a,c,t,u,l',r',vs',ws',rfl,rfl,s1,s2,?_⟩
   have e:(if a=c then ltT l' r' else some (decide (a < c)))=some b:=e
   by_cases hac:a=c
   ·rw [if_pos hac] at e ⊢;exact e
   ·rw [if_neg hac] at e ⊢;exact (Option.some.inj e).symm
theorem ltT_end {l r : List V} {vs ws vs0 ws0 : List Value} (r1 : RVs K ρ h l vs) (r2 : RVs K ρ h r ws) {b : Bool} (e : ltT l r = some b) (hz : [] = vs.zip ws)
  (hl:(vs.length:Int) - ws.length=vs0.length - ws0.length):b=decide (vs0.length < ws0.length):=by
 cases r1 with
 | nil=>
  cases r2 with
  | nil=>refine siE e ?_;simp at hl;simp;exact ln2 [(.zeq .k0 (.s (.n .v1) (.n .v0)))] (.le .v0 .v1) (.d 111) rfl hl
  | cons _ s2=>refine siE e ?_;simp at hl;simp;exact ln3 [(.zeq (.g (.a (.n .v2) .k1)) (.s (.n .v0) (.n .v1)))] (.lt .v0 .v1) (.d 1101) rfl hl
 | cons x1 s1=>
  cases r2 with
  | nil=>refine siE e ?_;simp at hl;simp;exact ln3 [(.zeq (.a (.n .v2) .k1) (.s (.n .v1) (.n .v0)))] (.le .v0 .v1) (.d 111) rfl hl
  | cons _ s2=>simp at hz
set_option maxHeartbeats 1000000 in
theorem tuple_ltM (l b : Addr) (vs ws : List Value) (x y : List V) (ρ : List Addr) (r : Bool) (e : ltT x y = some r) :
  Meets (Builtin.«tuple.__lt__» ⟨[.ref l,.ref b],[]⟩)
   (fun u_ R s=>s.heap.get? l=some (tupObj vs)∧s.heap.get? b=some (tupObj ws)∧RVs K ρ s.heap x vs∧RVs K ρ s.heap y ws∧R (.ok (.ret (.bool r))) s) :=
 .of_wp fun prog w A R s h=>by
  refine byC fun hX=>?_;obtain ⟨hp,g,d,tk,os⟩:=s;refine hX ?_;clear hX;revert h;refine rAAAA fun hl hb r1 r2 h=>?_
  have f2:=AutoSeq1.sub_tuple_tuple
  wp_walk using wpAny_loadPart' hl,wpAny_loadPart' hb,wpAny_forIn_list _ (fun rest b s'=>b.1=none∧s'=⟨hp,g,d,tk,os⟩∧∃x' y' vs' ws',rest=vs'.zip ws'∧RVs K ρ hp x' vs'∧RVs K ρ hp y' ws'∧ltT x' y'=some r∧(vs'.length:Int) - ws'.length=vs.length - ws.length) _
  case turn=>
   intro hR0 rest b s' hR4
   refine byC fun hX=>?_;obtain ⟨p,q⟩:=hR0;refine hX ?_;clear hX
   revert hR4;refine rAAEEEEAAAA fun hb' hO1 x' y' vs' ws' hz s1 s2 e' hlen=>?_;refine eqS hO1 ?_
   refine byC fun hX=>?_;refine rEEEEEEEEAAAA (fun a c t u l' r' vs2 ws2 hO8 hO9 q1 q2 hif=>?_) (ltT_step s1 s2 e' (by intro h0;subst h0;cases hz) (by intro h0;subst h0;simp at hz));obtain rfl:=hO8;obtain rfl:=hO9;refine hX ?_;clear hX
   cases hz
   refine wpAny_bind (EqAt.int_int a t c u prog w _ _ ?_)
   by_cases hac:a=c
   ·rw [if_pos hac] at hif
    rw [show (a == c)=true by simpa using hac]
    wp_walk
    exact ⟨rfl,rfl,l',r',vs2,ws2,rfl,q1,q2,hif,by simp at hlen;exact ln4 [(.zeq (.s (.a (.n .v0) .k1) (.a (.n .v1) .k1)) (.s (.n .v2) (.n .v3)))] (.zeq (.s (.n .v0) (.n .v1)) (.s (.n .v2) (.n .v3))) (.s (.d 1101) (.d 111)) rfl hlen⟩
   ·rw [if_neg hac] at hif
    rw [show (a == c)=false by simpa using hac]
    subst hif
    refine wpAny_bind (wpAny_rule (wpAny_bind (show wpAny _ _ (compareOp .Lt (.int a t) (.int c u)) _ _ _ from lt_int ?_)))
    exact wpAny_bind (wpAny_pure (wpAny_pure (wpAny_pure ⟨_,rfl,h⟩)))
  case fin=>
   intro hR0 s' hR2
   refine byC fun hX=>?_;obtain ⟨b1,b2⟩:=hR0;refine hX ?_;clear hX
   revert hR2;refine rAAEEEEAAAA fun hb' hO1 x' y' vs' ws' hz s1 s2 e' hlen=>?_;refine eqS hO1 ?_
   simp only at hb'
   subst hb'
   wp_walk
   refine ⟨_,rfl,?_⟩
   have hr:r=decide (vs.length < ws.length):=ltT_end s1 s2 e' hz hlen
   subst hr
   simpa [Builtin.Tuple.tupleCompareSizes] using h
  case h=>
   exact ⟨rfl,rfl,x,y,vs,ws,by simp,r1,r2,e,rfl⟩
set_option maxHeartbeats 1000000 in
theorem tuple_gtM (l b : Addr) (vs ws : List Value) (x y : List V) (ρ : List Addr) (r : Bool) (e : ltT y x = some r) :
  Meets (Builtin.«tuple.__gt__» ⟨[.ref l,.ref b],[]⟩)
   (fun u_ R s=>s.heap.get? l=some (tupObj vs)∧s.heap.get? b=some (tupObj ws)∧RVs K ρ s.heap x vs∧RVs K ρ s.heap y ws∧R (.ok (.ret (.bool r))) s) :=
 .of_wp fun prog w A R s h=>by
  refine byC fun hX=>?_;obtain ⟨hp,g,d,tk,os⟩:=s;refine hX ?_;clear hX;revert h;refine rAAAA fun hl hb r1 r2 h=>?_
  have f2:=AutoSeq1.sub_tuple_tuple
  wp_walk using wpAny_loadPart' hl,wpAny_loadPart' hb,wpAny_forIn_list _ (fun rest b s'=>b.1=none∧s'=⟨hp,g,d,tk,os⟩∧∃x' y' vs' ws',rest=vs'.zip ws'∧RVs K ρ hp x' vs'∧RVs K ρ hp y' ws'∧ltT y' x'=some r∧(vs'.length:Int) - ws'.length=vs.length - ws.length) _
  case turn=>
   intro hR0 rest b s' hR4
   refine byC fun hX=>?_;obtain ⟨p,q⟩:=hR0;refine hX ?_;clear hX
   revert hR4;refine rAAEEEEAAAA fun hb' hO1 x' y' vs' ws' hz s1 s2 e' hlen=>?_;refine eqS hO1 ?_
   refine byC fun hX=>?_;refine rEEEEEEEEAAAA (fun c a u t r' l' ws2 vs2 hO8 hO9 q2 q1 hif=>?_) (ltT_step s2 s1 e' (by intro h0;subst h0;simp at hz) (by intro h0;subst h0;cases hz));obtain rfl:=hO8;obtain rfl:=hO9;refine hX ?_;clear hX
   cases hz
   refine wpAny_bind (EqAt.int_int a t c u prog w _ _ ?_)
   by_cases hac:c=a
   ·rw [if_pos hac] at hif
    rw [show (a == c)=true by simpa using hac.symm]
    wp_walk
    exact ⟨rfl,rfl,l',r',vs2,ws2,rfl,q1,q2,hif,by simp at hlen;exact ln4 [(.zeq (.s (.a (.n .v0) .k1) (.a (.n .v1) .k1)) (.s (.n .v2) (.n .v3)))] (.zeq (.s (.n .v0) (.n .v1)) (.s (.n .v2) (.n .v3))) (.s (.d 1101) (.d 111)) rfl hlen⟩
   ·rw [if_neg hac] at hif
    rw [show (a == c)=false by simpa using fun e=>hac e.symm]
    subst hif
    refine wpAny_bind (wpAny_rule (wpAny_bind (show wpAny _ _ (compareOp .Gt (.int a t) (.int c u)) _ _ _ from gt_int ?_)))
    exact wpAny_bind (wpAny_pure (wpAny_pure (wpAny_pure ⟨_,rfl,h⟩)))
  case fin=>
   intro hR0 s' hR2
   refine byC fun hX=>?_;obtain ⟨b1,b2⟩:=hR0;refine hX ?_;clear hX
   revert hR2;refine rAAEEEEAAAA fun hb' hO1 x' y' vs' ws' hz s1 s2 e' hlen=>?_;refine eqS hO1 ?_
   simp only at hb'
   subst hb'
   wp_walk
   refine ⟨_,rfl,?_⟩
   have hr:r=decide (ws.length < vs.length):=ltT_end s2 s1 e' (by cases vs' <;> cases ws' <;> simp at hz ⊢) (by exact ln4 [(.zeq (.s (.n .v1) (.n .v0)) (.s (.n .v3) (.n .v2)))] (.zeq (.s (.n .v0) (.n .v1)) (.s (.n .v2) (.n .v3))) (.s (.d 111) (.d 1101)) rfl hlen)
   subst hr
   simpa [Builtin.Tuple.tupleCompareSizes] using h
  case h=>
   exact ⟨rfl,rfl,x,y,vs,ws,by simp,r1,r2,e,rfl⟩
end
section
variable {K:Kx}{A:Around}
theorem mapM_reads {f : V → Option PyData} {n : Nat} (hf : ∀ v cv d, f v = some d → RV K ρ h v cv → ∃ as, Reads h cv d as ∧ d.canLay0 = true ∧ d.depth ≤ n) :
  ∀(l:List V) (vs:List Value) (ds:List PyData),l.mapM f=some ds→RVs K ρ h l vs→∃as,ReadsAll h vs ds as∧PyData.canLayAll0 ds=true∧PyData.depthAll ds≤n
 | [],vs,ds,e,r=>by
  simp at e;subst e;cases r;exact ⟨[],.nil,rfl,Nat.zero_le _⟩
 | v::l,vs,ds,e,r=>by
  cases r with
  | cons r0 r1=>
   simp only [List.mapM_cons,Option.bind_eq_bind,Option.bind_eq_some_iff] at e
   revert e;refine rEAEA fun d hd ds' hds e=>?_
   simp at e;subst e
   refine rEAA (fun as h1 h2 h3=>?_) (hf v _ d hd r0)
   refine rEAA (fun bs g1 g2 g3=>?_) (mapM_reads hf l _ ds' hds r1)
   exact ⟨_,.cons h1 g1,by simp [PyData.canLayAll0,h2,g2],by simp only [PyData.depthAll];exact ln4 [(.le .v2 .v1),(.le .v3 .v1),(.mx .v0 .v2 .v3)] (.le .v0 .v1) (.s (.d 110101) (.d 111001)) rfl h3 g3 (max_ax _ _)⟩
set_option tactic.hygienic true in
theorem toD_reads (hr:HR K ρ σ h):∀(f:Nat) (v:V) (cv:Value) (d:PyData),toD f σ v=some d→RV K ρ h v cv→∃as,Reads h cv d as∧d.canLay0=true∧d.depth≤f
 | 0,v,cv,d,e,r=>by simp [toD] at e
 | f + 1,v,cv,d,e,r=>by
  have ih:=toD_reads hr f
  cases r with
  | none=>simp [toD] at e;subst e;exact ⟨[],.none,rfl,Nat.zero_le _⟩
  | bool b=>simp [toD] at e;subst e;exact ⟨[],.bool b,rfl,Nat.zero_le _⟩
  | int i t=>simp [toD] at e;subst e;exact ⟨[],.int i t,rfl,Nat.zero_le _⟩
  | str s t=>
   simp only [toD] at e
   split at e
   ·rename_i hs;refine siE e ?_;exact ⟨[],.str s t,by simpa [PyData.canLay0] using hs,Nat.zero_le _⟩
   ·exact nn e
  | tup ha rs hn=>
   simp only [toD,Option.map_eq_some_iff] at e
   revert e;refine rEA fun ds h1 hO2=>?_;refine eqE hO2 ?_
   refine rEAA (fun as g1 g2 g3=>?_) (mapM_reads (fun v cv d=>ih v cv d) _ _ ds h1 rs)
   exact ⟨as,.tuple ha rfl rfl (by simpa using g1),by simpa [PyData.canLay0] using g2,by simp only [PyData.depth];exact ln2 [(.le .v0 .v1)] (.le (.a .v0 .k1) (.a .v1 .k1)) (.d 111) rfl g3⟩
  | obj ha=>
   simp only [toD] at e
   split at e
   ·rename_i l hl
    simp only [Option.map_eq_some_iff] at e
    revert e;refine rEA fun ds h1 hO2=>?_;refine eqE hO2 ?_
    refine rEEAA (fun vs n e1 rs u4_=>?_) (hr.obj _ _ _ hl ha)
    refine rEAA (fun as g1 g2 g3=>?_) (mapM_reads (fun v cv d=>ih v cv d) _ _ ds h1 rs)
    exact ⟨_,.list e1 rfl rfl (by simpa using g1),by simpa [PyData.canLay0] using g2,by simp only [PyData.depth];exact ln2 [(.le .v0 .v1)] (.le (.a .v0 .k1) (.a .v1 .k1)) (.d 111) rfl g3⟩
   ·exact nn e
  | ty t=>simp [toD] at e
  | frz _ _ _=>simp [toD] at e
set_option tactic.hygienic true in
theorem eqV_inv {x y:V}{b:Bool} (e:eqV σ x y=some b):∃dx dy,toD 6 σ x=some dx∧toD 6 σ y=some dy∧b=PyData.eqv dx dy:=by
 unfold eqV at e
 split at e
 ·rename_i h1 h2;refine siE e ?_;exact ⟨_,_,h1,h2,rfl⟩
 ·exact nn e
theorem items_inv (hr : HR K ρ σ h) {v : V} {x : Value} {l : List V} (e : items σ v = some l) (r : RV K ρ h v x) :
  ∃a vs,x=.ref a∧((∃n,h.get? a=some (listObj vs n))∨h.get? a=some (tupObj vs))∧RVs K ρ h l vs∧l.length≤lenMax:=by
 cases v with
 | obj n=>
  refine rEEEAA (fun a vs n' h1 h2 h3=>?_) (listOf_inv hr (l:=l) (show listOf σ (.obj n)=some l from e) r)
  exact ⟨a,vs,h1,.inl ⟨n',h2⟩,h3⟩
 | frz l'=>
  refine rEEEAA (fun a vs n' h1 h2 h3=>?_) (listOf_inv hr (l:=l) (show listOf σ (.frz l')=some l from e) r)
  exact ⟨a,vs,h1,.inl ⟨n',h2⟩,h3⟩
 | tup l'=>
  refine rEEAAA (fun u0_ u1_ hO2 ha rs hn=>?_) (r.tupI rfl);refine eqS hO2 ?_;obtain rfl:=Option.some.inj e;exact ⟨_,_,rfl,.inr ha,rs,hn⟩
 | _=>exact nn e
theorem isV_inv {x y:V}{b:Bool} (e:isV x y=some b) {cx cy:Value} (rx:RV K ρ h x cx) (ry:RV K ρ h y cy):plainIs cx cy=true∧(cx == cy)=b:=by
 cases y with
 | none=>
  obtain rfl:=ry.noneI rfl
  have e:isNoneV x=some b:=e
  cases rx with
  | ty t=>exact nn e
  | _=>refine siE e ?_;exact ⟨rfl,rfl⟩
 | bool c=>
  obtain rfl:=ry.boolI rfl
  have e:isBoolV c x=some b:=e
  cases rx with
  | bool d=>refine siE e ?_;exact ⟨rfl,by rw [Bool.eq_iff_iff];simp⟩
  | int _ _=>refine siE e ?_;exact ⟨rfl,rfl⟩
  | none=>refine siE e ?_;exact ⟨rfl,rfl⟩
  | _=>exact nn e
 | _=>exact nn e
theorem lt_sound {x y : V} {b : Bool} (h : ltV x y = some b) {cx cy : Value} (rx : RV K ρ s.heap x cx) (ry : RV K ρ s.heap y cy) (hu : A.units + 16 < cLine) {Q : Value → Shared → Prop} {E : Value → Shared → Prop} (hq : Q (.bool b) s) :
  wpAny K.M A (compareOp .Lt cx cy) Q E s∧wpAny K.M A (compareOp .Gt cy cx) Q E s:=by
 cases x with
 | int a=>
  refine mapn_e (h) fun c hc e=>?_
  obtain rfl:=asInt_inv hc
  subst e;refine byC fun hX=>?_;refine rE (fun u0_ hO1=>?_) (rx.intI rfl);obtain rfl:=hO1;refine hX ?_;clear hX;refine byC fun hX=>?_;refine rE (fun u0_ hO1=>?_) (ry.intI rfl);obtain rfl:=hO1;refine hX ?_;clear hX
  exact ⟨lt_int hq,gt_int hq⟩
 | tup l=>
  refine bind_e (h) fun r hc e=>?_
  obtain rfl:=asTup_inv hc
  refine byC fun hX=>?_;refine rEEAAA (fun u0_ u1_ hO2 e1 r1 u5_=>?_) (rx.tupI rfl);obtain rfl:=hO2;refine hX ?_;clear hX
  refine byC fun hX=>?_;refine rEEAAA (fun u0_ u1_ hO2 e2 r2 u5_=>?_) (ry.tupI rfl);obtain rfl:=hO2;refine hX ?_;clear hX
  exact ⟨richCompare_meets_room (op:=.Lt) ⟨_,e1,rfl⟩ ⟨_,e2,rfl⟩ F.slot_tuple_lt F.entry_tuple_lt (F.args_tuple_lt_2 _ _) (tuple_ltM _ _ _ _ _ _ ρ b e) ⟨e1,e2,r1,r2,⟨(fun x=>nomatch x),hq⟩⟩ (by exact ln2 [(.lt (.a .v0 (.k 16)) .v1)] (.lt .v0 .v1) (.d 111) rfl hu),
   richCompare_meets_room (op:=.Gt) ⟨_,e2,rfl⟩ ⟨_,e1,rfl⟩ F.slot_tuple_gt F.entry_tuple_gt (F.args_tuple_gt_2 _ _) (tuple_gtM _ _ _ _ _ _ ρ b e) ⟨e2,e1,r2,r1,⟨(fun x=>nomatch x),hq⟩⟩ (by exact ln2 [(.lt (.a .v0 (.k 16)) .v1)] (.lt .v0 .v1) (.d 111) rfl hu)⟩
 | _=>exact nn h
theorem le_sound {x y : V} {b : Bool} (h : leV x y = some b) {cx cy : Value} (rx : RV K ρ s.heap x cx) (ry : RV K ρ s.heap y cy) {Q : Value → Shared → Prop} {E : Value → Shared → Prop} (hq : Q (.bool b) s) :
  wpAny K.M A (compareOp .LtE cx cy) Q E s∧wpAny K.M A (compareOp .GtE cy cx) Q E s:=by
 refine bind_e (h) fun a ha h'=>?_
 refine mapn_e (h') fun c hc e=>?_
 obtain rfl:=asInt_inv ha
 obtain rfl:=asInt_inv hc
 subst e;refine byC fun hX=>?_;refine rE (fun u0_ hO1=>?_) (rx.intI rfl);obtain rfl:=hO1;refine hX ?_;clear hX;refine rE (fun u0_ hO1=>?_) (ry.intI rfl);refine eqS hO1 ?_
 exact ⟨le_int hq,ge_int hq⟩
set_option tactic.hygienic true in
theorem in_sound {x y : V} {b : Bool} (h : (items σ y).bind (inV σ x) = some b) {cx cy : Value} (hr : HR K ρ σ s.heap) (rx : RV K ρ s.heap x cx) (ry : RV K ρ s.heap y cy) (hu : A.units + 16 < cLine) {Q : Value → Shared → Prop} {E : Value → Shared → Prop} :
  (Q (.bool b) s→wpAny K.M A (compareOp .In cx cy) Q E s)∧(Q (.bool (!b)) s→wpAny K.M A (compareOp .NotIn cx cy) Q E s):=by
 refine bind_e (h) fun l hl hi=>?_
 unfold inV at hi
 split at hi
 ·rename_i ds d hd1 hd2
  refine siE hi ?_
  refine rEEAAA (fun a vs hO2 hobj rs u5_=>?_) (items_inv hr hl ry);refine eqS hO2 ?_
  refine rEAA (fun as g1 g2 g3=>?_) (mapM_reads (toD_reads hr 6) _ _ _ hd1 rs)
  refine rEAA (fun bs k1 k2 k3=>?_) (toD_reads hr 6 _ _ _ hd2 rx)
  have hu':A.units + 1 + min (PyData.depthAll ds) d.depth < cLine:=by
   have:min (PyData.depthAll ds) d.depth≤6:=Nat.le_trans (Nat.min_le_left _ _) g3
   lia
  rcases hobj with ⟨n,e⟩ | e
  ·have hR:=Reads.list e rfl rfl g1
   exact ⟨fun hq=>in_list_reads hR k1 g2 k2 hu' hq,fun hq=>notIn_list_reads hR k1 g2 k2 hu' hq⟩
  ·have hR:=Reads.tuple e rfl rfl g1
   exact ⟨fun hq=>in_tuple_reads hR k1 g2 k2 hu' hq,fun hq=>notIn_tuple_reads hR k1 g2 k2 hu' hq⟩
 ·exact nn hi
theorem eq_sound {x y : V} {b : Bool} (h : eqV σ x y = some b) {cx cy : Value} (hr : HR K ρ σ s.heap) (rx : RV K ρ s.heap x cx) (ry : RV K ρ s.heap y cy) (hu : A.units + 16 < cLine) {Q : Value → Shared → Prop} {E : Value → Shared → Prop} :
  (Q (.bool b) s→wpAny K.M A (compareOp .Eq cx cy) Q E s)∧(Q (.bool (!b)) s→wpAny K.M A (compareOp .NotEq cx cy) Q E s):=by
 refine rEEAA (fun dx dy h1 h2 hO4=>?_) (eqV_inv h);refine eqS hO4 ?_
 refine rEAA (fun as g1 g2 g3=>?_) (toD_reads hr 6 _ _ _ h1 rx)
 refine rEAA (fun bs k1 k2 k3=>?_) (toD_reads hr 6 _ _ _ h2 ry)
 have hu':A.units + 1 + min dx.depth dy.depth < cLine:=by
  have:min dx.depth dy.depth≤6:=Nat.le_trans (Nat.min_le_left _ _) g3
  lia
 exact ⟨fun hq=>compareEq_reads g1 k1 g2 k2 (by exact ln3 [(.lt (.a (.a .v0 .k1) .v1) .v2)] (.lt (.a .v0 .v1) .v2) (.d 111) rfl hu') hq,fun hq=>compareNe_reads g1 k1 g2 k2 (by exact ln3 [(.lt (.a (.a .v0 .k1) .v1) .v2)] (.lt (.a .v0 .v1) .v2) (.d 111) rfl hu') hq⟩
theorem cmpop_sound {op : Cop} {x y : V} {b : Bool} (h : cmpop op x y σ = some b) {cx cy : Value} (hr : HR K ρ σ s.heap) (rx : RV K ρ s.heap x cx) (ry : RV K ρ s.heap y cy)
  {o:CmpOp} (ho:cCop o=op) (hu:A.units + 16 < cLine) {Q:Value→Shared→Prop}{E:Value→Shared→Prop} (hq:Q (.bool b) s):wpAny K.M A (compareOp o cx cy) Q E s:=by
 subst ho
 cases o with
 | Eq=>exact (eq_sound h hr rx ry hu).1 hq
 | NotEq=>
  refine byC fun hX=>?_;refine rEA (fun b' hb' hO2=>?_) (Option.map_eq_some_iff.mp h);obtain rfl:=hO2;refine hX ?_;clear hX
  exact (eq_sound hb' hr rx ry hu).2 hq
 | Lt=>exact (lt_sound h rx ry hu hq).1
 | LtE=>exact (le_sound h rx ry hq).1
 | Gt=>exact (lt_sound h ry rx hu hq).2
 | GtE=>exact (le_sound h ry rx hq).2
 | Is=>
  refine rA (fun h1 h2=>?_) (isV_inv h rx ry)
  exact wpAny_is_plain h1 (h2 ▸ hq)
 | IsNot=>
  refine byC fun hX=>?_;refine rEA (fun b' hb' hO2=>?_) (Option.map_eq_some_iff.mp h);obtain rfl:=hO2;refine hX ?_;clear hX
  refine rA (fun h1 h2=>?_) (isV_inv hb' rx ry)
  exact wpAny_isNot_plain h1 (h2 ▸ hq)
 | In=>exact (in_sound h hr rx ry hu).1 hq
 | NotIn=>
  refine byC fun hX=>?_;refine rEA (fun b' hb' hO2=>?_) (Option.map_eq_some_iff.mp h);obtain rfl:=hO2;refine hX ?_;clear hX
  exact (in_sound hb' hr rx ry hu).2 hq
end
set_option tactic.hygienic true in
theorem idxN_lt {i:Int}{n k:Nat} (h:idxN i n=some k):k < n∧-(n:Int)≤i∧i < n∧(if 0≤i then k=i.toNat else k=(i + n).toNat):=by
 unfold idxN at h
 split at h
 ·rename_i h0
  split at h
  ·refine siE h ?_;rw [if_pos h0];refine ⟨by exact lin [(.zle .k0 .v0),(.nt .v0 .v0),(.zlt .v0 (.n .v1))] (.lt .v0 .v1) (.s (.d 1100101) (.d 1110101)) rfl [_,_] [_] h0 (nat_ax _) ‹_›,by exact lin [(.zle .k0 .v0)] (.zle (.g (.n .v0)) .v0) (.d 111) rfl [_] [_] h0,by exact lin [(.zlt .v0 (.n .v0))] (.zlt .v0 (.n .v0)) (.d 111) rfl [_] [_] ‹_›,rfl⟩
  ·exact nn h
 ·rename_i h0
  split at h
  ·refine siE h ?_;rw [if_neg h0];refine ⟨by exact lin [(.no (.zle .k0 .v0)),(.nt .v0 (.a .v0 (.n .v1))),(.zle .k0 (.a .v0 (.n .v1)))] (.lt .v0 .v1) (.s (.d 11101) (.d 1110101)) rfl [_,_] [_] h0 (nat_ax _) ‹_›,by exact lin [(.zle .k0 (.a .v0 (.n .v0)))] (.zle (.g (.n .v0)) .v0) (.d 111) rfl [_] [_] ‹_›,by exact lin [(.no (.zle .k0 .v0))] (.zlt .v0 (.n .v0)) (.d 111) rfl [_] [_] h0,rfl⟩
  ·exact nn h
theorem idxN_seq {i:Int}{n k:Nat} (h:idxN i n=some k):seqIndex? i n=some k:=by
 refine rAAA (fun h1 h2 h3 h4=>?_) (idxN_lt h)
 unfold seqIndex?
 by_cases h0:0≤i
 ·rw [if_pos h0] at h4
  have hn:¬ i < 0:=by exact lz1 [(.zle .k0 .v0)] (.no (.zlt .v0 .k0)) (.d 111) rfl h0
  simp only [hn,if_false]
  rw [if_pos (by simp only [Bool.and_eq_true,decide_eq_true_eq];exact lin [(.zlt .v0 (.n .v0)),(.zle .k0 .v0)] (.an (.zle .k0 .v0) (.zlt .v0 (.n .v0))) (.s (.d 1101) (.d 111)) rfl [_] [_] h3 h0),h4]
 ·rw [if_neg h0] at h4
  have hn:i < 0:=by exact lz1 [(.no (.zle .k0 .v0))] (.zlt .v0 .k0) (.d 111) rfl h0
  simp only [hn,if_true]
  rw [if_pos (by simp only [Bool.and_eq_true,decide_eq_true_eq];exact lin [(.zle (.g (.n .v0)) .v0),(.no (.zle .k0 .v0))] (.an (.zle .k0 (.a .v0 (.n .v0))) (.zlt (.a .v0 (.n .v0)) (.n .v0))) (.s (.d 111) (.d 1101)) rfl [_] [_] h2 h0),h4]
theorem clampS_clip (i:Int) (n:Nat):clampS i n=clipAt n i:=by
 unfold clampS clipAt
 by_cases h:i < 0
 ·rw [if_pos h,if_pos h]
  have h2:i + n≤n:=Int.add_le_of_le_sub_right (by rw [Int.sub_self];exact Int.le_of_lt h)
  rw [Int.min_eq_left h2]
  rcases Int.le_total 0 (i + n) with h3 | h3
  ·rw [Int.max_eq_right h3]
  ·rw [Int.max_eq_left h3,Int.toNat_of_nonpos h3];rfl
 ·rw [if_neg h,if_neg h]
  have h0:0≤i:=Int.not_lt.mp h
  rw [Int.max_eq_right (Int.le_min.mpr ⟨h0,Int.natCast_nonneg n⟩)]
  lia
section
variable {K:Kx}{A:Around}{env:Env}
theorem sub_tail {value slice : Expr} {o i : Value} {T id : String} {Q : Value → Shared → Prop} {E : Value → Shared → Prop} (hT : s.TypeIs o T)
  (hl : typeLookup (.type T) "__getitem__" = pure (some (.builtin id))) (h : wpAny K.M A (getItem o i) Q E s) : wpAny K.M A (subscriptTail value slice o i) Q E s := by
 unfold subscriptTail
 refine wpAny_bind ?_
 rw [getitemInPython_of_ne hT.not_modules]
 refine wpAny_bind (wpAny_specialOf hT hl ?_)
 have fin:wpAny K.M A (subscripted slice false o i) (fun r s₃=>wpAny K.M A (letTemporaryGo value o r >>= fun u_=>pure r) Q E s₃) E s:=by
  have k:wpAny K.M A (getItem o i) (fun r s₃=>wpAny K.M A (letTemporaryGo value o r >>= fun u_=>pure r) Q E s₃) E s :=
   wpAny_mono h (fun r s₃ h₃=>wpAny_bind (wpAny_letTemporaryGo (wpAny_pure h₃))) fun u_ v_ x=>x
  cases slice with
  | Slice lo hi st p=>
   cases st with
   | none=>exact wpAny_operating k
   | some _=>exact wpAny_operating k
  | _=>exact wpAny_operating k
 first
  | exact wpAny_pure (wpAny_bind fin)
  | exact wpAny_bind (wpAny_pure (wpAny_bind fin))
  | exact wpAny_bind fin
set_option tactic.hygienic true in
theorem getIdx_sound {x y v : V} (h : getIdx σ x y = some v) {cx cy : Value} (hr : HR K ρ σ s.heap) (rx : RV K ρ s.heap x cx) (ry : RV K ρ s.heap y cy)
  {value slice:Expr}:TR K A (subscriptTail value slice cx cy) ρ s σ fun ρ' cv s'=>RV K ρ' s'.heap v cv:=by
 refine bind_e (h) fun k hk h'=>?_
 obtain rfl:=asInt_inv hk
 refine bind_e (h') fun l hl h''=>?_
 refine bind_e (h'') fun j hj hv=>?_
 refine byC fun hX=>?_;refine rEEAAA (fun a vs hO2 hobj rs hlen=>?_) (items_inv hr hl rx);obtain rfl:=hO2;refine hX ?_;clear hX
 refine rEA (fun cv hc rv=>?_) (rs.get hv)
 have hlv:=rs.length
 refine rAAA (fun h1 h2 h3 h4=>?_) (idxN_lt hj)
 unfold lenMax at hlen
 refine byC fun hX=>?_;refine rE (fun u0_ hO1=>?_) (ry.intI rfl);obtain rfl:=hO1;refine hX ?_;clear hX
 have hc':vs.toArray[j]? = some cv:=by rw [List.getElem?_toArray];exact hc
 have hsz:vs.toArray.size=l.length:=hlv.symm
 rcases hobj with ⟨n,e⟩ | e
 ·have hL:s.heap.IsList a vs.toArray:=⟨_,e,rfl,n,rfl⟩
  refine sub_tail hL.typeIs slot_list_getitem.lookup ?_
  split at h4
  ·rename_i h0
   exact wpAny_getItem_list hL h0 (by lia) (x:=cv) (h4 ▸ hc') ⟨ρ,Good.refl hr,rv⟩
  ·rename_i h0
   exact wpAny_getItem_list_neg hL (by exact lz1 [(.no (.zle .k0 .v0))] (.zlt .v0 .k0) (.d 111) rfl h0) (by rw [hsz];exact lin [(.zle (.g (.n .v0)) .v0)] (.zle (.g (.n .v0)) .v0) (.d 111) rfl [_] [_] h2) (by lia) (x:=cv) (by rw [hsz];exact h4 ▸ hc') ⟨ρ,Good.refl hr,rv⟩
 ·refine sub_tail (T := "tuple") ⟨_, e, rfl⟩ PySem.F.slot_tuple_getitem.lookup ?_
  exact getItem_meets ⟨_,e,rfl⟩ (by decide) F.slot_tuple_getitem F.entry_tuple_getitem (F.args_tuple_getitem_2 _ _) (MeetsSeq.tuple_getitem_at a vs.toArray 0 k _ j cv (by lia) (by lia) (by rw [hsz];exact idxN_seq hj) hc') ⟨e,ρ,Good.refl hr,rv⟩
theorem part_of {v:V}{x:Value} (r:RV K ρ h v x) {b:Option Int} (e:asBound v=some b):IsPart x b:=by
 cases r with
 | none=>refine siE e ?_;exact .none
 | int i t=>refine siE e ?_;exact .int i t
 | _=>exact nn e
set_option tactic.hygienic true in
theorem sliceL_pick {l r : List V} {lo hi st : V} (e : sliceL l lo hi st = some r) {vs : List Value} {cl cu cs : Value} (rv : RVs K ρ h l vs) (rl : RV K ρ h lo cl) (ru : RV K ρ h hi cu) (rs : RV K ρ h st cs) :
  ∃a b c,IsPart cl a∧IsPart cu b∧IsPart cs c∧c≠some 0∧∃ws:List Value,slicePick vs.toArray a b c=ws.toArray∧RVs K ρ h r ws:=by
 refine bind_e (e) fun a ha e1=>?_
 refine bind_e (e1) fun b hb e2=>?_
 refine bind_e (e2) fun c hc e3=>?_
 have hsz:vs.toArray.size=l.length:=rv.length.symm
 have hcl:(fun i=>clampS i l.length)=clipAt l.length:=funext fun i=>clampS_clip i _
 have hlo:loN a l.length=a.elim 0 (clipAt l.length):=by unfold loN;rw [hcl]
 have hhi:hiN b l.length=b.elim l.length (clipAt l.length):=by unfold hiN;rw [hcl]
 refine ⟨a,b,c,part_of rl ha,part_of ru hb,part_of rs hc,?_⟩
 split at e3
 ·rename_i h0
  subst h0;refine siE e3 ?_
  refine ⟨by simp,(vs.take (hiN b l.length)).drop (loN a l.length),?_,(rv.take _).drop _⟩
  rw [slicePick_plain,hsz,← hlo,← hhi,List.drop_take]
 ·cases e3
theorem ite_some6 {P:Prop}{dc:Decidable P}{α:Type}{x:Option α}{a:α} (h:(if P then x else .none)=some a):P∧x=some a:=by
 by_cases hp:P
 ·rw [if_pos hp] at h;exact ⟨hp,h⟩
 ·rw [if_neg hp] at h;exact nn h
theorem slice_sound {x lo hi st v : V} (h : sliceV σ x lo hi st = some (v, σ')) {cx cl cu cs : Value} {sl : Addr} (hr : HR K ρ σ s.heap) (rx : RV K ρ s.heap x cx)
  (rl:RV K ρ s.heap lo cl) (ru:RV K ρ s.heap hi cu) (rs:RV K ρ s.heap st cs) (hsl:s.heap.IsSliceOf sl cl cu cs) {value slice:Expr} :
  TR K A (subscriptTail value slice cx (.ref sl)) ρ s σ' fun ρ' cv s'=>RV K ρ' s'.heap v cv:=by
 cases hT:asTup x with
 | some l=>
  have h:((asTup x).elim _ fun l=>(sliceT l lo hi st).map fun v=>(v,σ))=some (v,σ'):=h
  rw [hT] at h
  refine mapn_e ((show (sliceT l lo hi st).map _=some (v,σ') from h)) fun w hw e=>?_
  refine byC fun hX=>?_;obtain ⟨rfl,rfl⟩:=Prod.mk.inj e;refine hX ?_;clear hX
  refine bind_e (hw) fun pa ha h1=>?_
  refine bind_e (h1) fun pb hb h2=>?_
  refine bind_e (h2) fun pc hc h3=>?_
  refine byC fun hX=>?_;obtain ⟨⟨rfl,rfl,rfl⟩,h4⟩:=ite_some6 h3;refine hX ?_;clear hX
  have bn:∀{v:V},asBound v=some .none→v.isNone=true:=fun {v} h=>by
   cases v with
   | none=>rfl
   | int i=>exact ns (Option.some.inj h)
   | _=>exact nn h
  have bi:asInt hi=some 2:=by
   cases hi with
   | none=>exact nn (Option.some.inj hb)
   | int i=>exact congrArg id (Option.some.inj hb)
   | _=>exact nn hb
  obtain rfl:=rl.noneI (bn ha)
  obtain rfl:=rs.noneI (bn hc)
  refine byC fun hX=>?_;obtain ⟨u,rfl⟩:=ru.intI bi;refine hX ?_;clear hX
  refine byC fun hX=>?_;obtain ⟨t,vs,rfl,e1,r1,_⟩:=rx.tupI hT;refine hX ?_;clear hX
  have h5:∃x y z,l=[x,y,z]∧w=.tup [x,y]:=by
   match l,h4 with
   | [x,y,z],h4=>exact ⟨x,y,z,rfl,(Option.some.inj (show some (V.tup [x,y])=some w from h4)).symm⟩
  refine byC fun hX=>?_;obtain ⟨x1,x2,x3,rfl,rfl⟩:=h5;refine hX ?_;clear hX
  refine byC fun hX=>?_;obtain ⟨c1,cr,rfl,q1,r1⟩:=r1.consI;refine hX ?_;clear hX
  refine byC fun hX=>?_;obtain ⟨c2,cr,rfl,q2,r1⟩:=r1.consI;refine hX ?_;clear hX
  refine byC fun hX=>?_;obtain ⟨c3,cr,rfl,q3,r1⟩:=r1.consI;refine hX ?_;clear hX
  obtain rfl:=r1.nilI
  have hI:IsTup s.heap t #[c1,c2,c3]:=⟨_,e1,rfl,_,rfl⟩
  refine sub_tail hI.typeIs slot_tuple_getitem.lookup (getItem_two hI hsl ?_)
  have hk : ∀ b o, s.heap.get? b = some o → (s.heap.push { cls := .type "tuple", data := .seq #[c1, c2] }).get? b = some o := fun b o e => Heap.get?_push_of_some _ e
  refine ⟨ρ,Good.grow hr hk s.toks,.tup (a:=s.heap.objs.size) (vs:=[c1,c2]) (Heap.get?_push_size _ rfl) (.cons (q1.mono (List.prefix_refl _) fun b vs e=>hk _ _ e) (.cons (q2.mono (List.prefix_refl _) fun b vs e=>hk _ _ e) .nil)) (show 2≤lenMax by decide)⟩
 | none=>
 have h:((asTup x).elim ((listOf σ x).bind fun l=>(sliceL l lo hi st).bind (mkList σ)) fun l=>(sliceT l lo hi st).map fun v=>(v,σ))=some (v,σ'):=h
 rw [hT] at h
 have h:((listOf σ x).bind fun l=>(sliceL l lo hi st).bind (mkList σ))=some (v,σ'):=h
 refine bind_e (h) fun l hl h'=>?_
 refine bind_e (h') fun r h1 h2=>?_
 refine rAA (fun hlen hO1 hO2=>?_) (mkList_inv h2);refine eqS hO1 ?_;refine eqS hO2 ?_
 refine byC fun hX=>?_;refine rEEEAAA (fun a vs n hO3 e rv hn=>?_) (listOf_inv hr hl rx);obtain rfl:=hO3;refine hX ?_;clear hX
 have hL:s.heap.IsList a vs.toArray:=⟨_,e,rfl,n,rfl⟩
 refine rEEEAAAAEA (fun pa pb pc p1 p2 p3 p4 ws hw rw'=>?_) (sliceL_pick h1 rv rl ru rs)
 refine sub_tail hL.typeIs slot_list_getitem.lookup (wpAny_getItem_list_slice hL hsl p1 p2 p3 p4 ?_ (list_len rv hn))
 rw [hw]
 refine rA (fun g rr=>?_) (good_list (n:=0) hr rw' hlen s.toks)
 exact ⟨_,g,rr⟩
end
structure Rm (d:Nat) (A:Around):Prop where
 handled:A.handled=none
 depth:A.depth + 2 * d < recursionLimit
 units:A.units + 8 * d + 40 < cLine
 fr:∃fs,A.frames=some fs
theorem Rm.deeper {d:Nat}{A:Around} (r:Rm (d + 1) A) (env:Env):Rm d (A.deeper env) :=
 ⟨r.handled,by have:=r.depth;show A.depth + 1 + 2 * d < _;exact ln3 [(.lt (.a .v0 (.m 2 (.a .v1 .k1))) .v2)] (.lt (.a (.a .v0 .k1) (.m 2 .v1)) .v2) (.d 111) rfl this,by have:=r.units;show A.units + 3 + 8 * d + 40 < _;exact ln3 [(.lt (.a (.a .v0 (.m 8 (.a .v1 .k1))) (.k 40)) .v2)] (.lt (.a (.a (.a .v0 (.k 3)) (.m 8 .v1)) (.k 40)) .v2) (.d 111) rfl this,let ⟨fs,h⟩:=r.fr;⟨env::fs,by show A.frames.map (env::·)=_;rw [h];rfl⟩⟩
theorem Rm.under {d : Nat} {A : Around} (r : Rm (d + 1) A) (env : Env) (C : Addr) (vs : List Value) : Rm d ((A.deeper env).under (.builtin "type.__call__" ⟨.ref C :: vs, []⟩)) :=
 ⟨r.handled,by have:=r.depth;show A.depth + 1 + 1 + 2 * d < _;exact ln3 [(.lt (.a .v0 (.m 2 (.a .v1 .k1))) .v2)] (.lt (.a (.a (.a .v0 .k1) .k1) (.m 2 .v1)) .v2) (.d 111) rfl this,by have:=r.units;show A.units + 3 + 1 + 8 * d + 40 < _;exact ln3 [(.lt (.a (.a .v0 (.m 8 (.a .v1 .k1))) (.k 40)) .v2)] (.lt (.a (.a (.a (.a .v0 (.k 3)) .k1) (.m 8 .v1)) (.k 40)) .v2) (.d 111) rfl this,let ⟨fs,h⟩:=r.fr;⟨env::fs,by show A.frames.map (env::·)=_;rw [h];rfl⟩⟩
structure TyOK (K:Kx):Prop where
 int : K.tyv 0 = .type "int"
 bool : K.tyv 1 = .type "bool"
 tuple : K.tyv 2 = .type "tuple"
 list : K.tyv 3 = .type "list"
 ex:∀u,K.ex=some u→∃a o,K.tyv u=.ref a∧K.h0.get? a=some o∧o.cls=K.tyv (u - 100)∧NoCtx K.h0 a
 exc:∀(A:Around) (c t:Nat) (r:Bool),isiE c t=some r→∀(s:Shared) (a:Addr) (o:Obj),(∀b o,K.h0.get? b=some o→s.heap.get? b=some o)→s.heap.get? a=some o→o.cls=K.tyv c→
  ∀ (Q : Value → Shared → Prop) (E : Value → Shared → Prop), (∀ tk, Q (.bool r) { s with toks := tk }) → wpAny K.M A (call (.builtin "isinstance") [.ref a, K.tyv t]) Q E s
section
variable {K:Kx}{A:Around}
theorem ite_some {P:Prop}{dc:Decidable P}{α:Type}{x:Option α}{a:α} (h:(if P then x else .none)=some a):P∧x=some a:=by
 by_cases hp:P
 ·rw [if_pos hp] at h;exact ⟨hp,h⟩
 ·rw [if_neg hp] at h;exact nn h
theorem isi_sound {x : V} {t : Nat} {r : Bool} (h : isiV σ x t = some r) {cx : Value} (hr : HR K ρ σ s.heap) (rx : RV K ρ s.heap x cx) (ty : TyOK K) :
  TR K A (call (.builtin "isinstance") [cx, K.tyv t]) ρ s σ fun ρ' cv s' => RV K ρ' s'.heap (.bool r) cv := by
 have ok:∀r tk,(∃ρ',Good K ρ s ρ' σ { s with toks:=tk }∧RV K ρ' s.heap (.bool r) (.bool r)):=fun r tk=>⟨ρ,(Good.refl hr).tok _,.bool r⟩
 have two:∀{a b:Nat}{p q:Bool},(if t=a then some p else if t=b then some q else Option.none)=some r→(t=a∧p=r)∨(t=b∧q=r):=fun {a b p q} h=>by
  by_cases e:t=a
  ·rw [if_pos e] at h;exact .inl ⟨e,Option.some.inj h⟩
  ·rw [if_neg e] at h;exact .inr ⟨(ite_some h).1,Option.some.inj (ite_some h).2⟩
 cases x with
 | int i=>
  refine byC fun hX=>?_;obtain ⟨tk,rfl⟩:=rx.intI rfl;refine hX ?_;clear hX
  rcases two h with ⟨e,rfl⟩ | ⟨e,rfl⟩
  ·rw [e,ty.int];exact IsiPair.int_int (ok _ s.toks)
  ·rw [e,ty.bool];exact IsiPair.int_bool (ok _ _)
 | bool b=>
  obtain rfl:=rx.boolI rfl
  refine ite_e ((show (if t=0∨t=1 then some true else Option.none)=some r from h)) fun e h=>?_
  obtain rfl:=Option.some.inj h
  rcases e with e | e
  ·rw [e,ty.int];exact IsiPair.bool_int (ok _ s.toks)
  ·rw [e,ty.bool];exact IsiPair.bool_bool (ok _ s.toks)
 | none=>
  obtain rfl:=rx.noneI rfl
  refine ite_e ((show (if t=0 then some false else Option.none)=some r from h)) fun e h=>?_
  obtain rfl:=Option.some.inj h
  rw [e,ty.int];exact IsiPair.NoneType_int (ok _ _)
 | str w=>
  refine byC fun hX=>?_;obtain ⟨tk,rfl⟩:=rx.strI rfl;refine hX ?_;clear hX
  refine ite_e ((show (if t=0 then some false else Option.none)=some r from h)) fun e h=>?_
  obtain rfl:=Option.some.inj h
  rw [e,ty.int];exact IsiPair.str_int (ok _ _)
 | tup l=>
  refine byC fun hX=>?_;obtain ⟨a,vs,rfl,e0,_⟩:=rx.tupI rfl;refine hX ?_;clear hX
  rcases two h with ⟨e,rfl⟩ | ⟨e,rfl⟩
  ·rw [e,ty.tuple];exact IsiPair.tuple_tuple e0 rfl (ok _ s.toks)
  ·rw [e,ty.int];exact IsiPair.tuple_int e0 rfl (ok _ _)
 | obj n=>
  refine byC fun hX=>?_;obtain ⟨a,rfl,ha⟩:=rx.objI rfl;refine hX ?_;clear hX
  refine bind_e ((show (σ[n]?).bind _=some r from h)) fun o hn h=>?_
  cases o with
  | list l=>
   refine byC fun hX=>?_;obtain ⟨vs,n',e0,_⟩:=hr.obj n _ a hn ha;refine hX ?_;clear hX
   rcases two h with ⟨e,rfl⟩ | ⟨e,rfl⟩
   ·rw [e,ty.list];exact IsiPair.list_list e0 rfl (ok _ s.toks)
   ·rw [e,ty.int];exact IsiPair.list_int e0 rfl (ok _ _)
  | _=>exact nn h
 | ty u=>
  refine byC fun hX=>?_;obtain ⟨rfl,hu⟩:=rx.tyI rfl;refine hX ?_;clear hX
  refine ite_e ((show (if 100≤u then isiE (u - 100) t else Option.none)=some r from h)) fun h1 h2=>?_
  have hu:=hu.resolve_left (by lia)
  refine byC fun hX=>?_;obtain ⟨a,o,e1,e2,e3,_⟩:=ty.ex u hu;refine hX ?_;clear hX
  rw [e1]
  exact ty.exc A (u - 100) t r h2 s a o hr.keep (hr.keep _ _ e2) e3 _ _ fun tk=>ok r tk
 | frz _=>exact nn h
theorem one_arg {as:List V}{x:V} (h:arg1 as=some x) {cas:List Value} (ra:RVs K ρ h' as cas):∃c,cas=[c]∧RV K ρ h' x c:=by
 rw [arg1_inv h] at ra
 refine rEEAA (fun u0_ u1_ hO2 r0 rn=>?_) (ra.consI);refine eqS hO2 ?_
 obtain rfl:=rn.nilI;exact ⟨_,rfl,r0⟩
theorem two_args {as:List V}{p:V×V} (h:arg2 as=some p) {cas:List Value} (ra:RVs K ρ h' as cas):∃c d,cas=[c,d]∧RV K ρ h' p.1 c∧RV K ρ h' p.2 d:=by
 rw [arg2_inv h] at ra
 refine rEEAA (fun u0_ u1_ hO2 r0 rn=>?_) (ra.consI);refine eqS hO2 ?_
 refine byC fun hX=>?_;obtain ⟨_,_,rfl,r1,rn⟩:=rn.consI;refine hX ?_;clear hX
 obtain rfl:=rn.nilI;exact ⟨_,_,rfl,r0,r1⟩
theorem two_sound {f : Int → Int → Int} {as : List V} {v : V} (h : twoV f σ as = some (v, σ')) {h0 : Heap} {cas : List Value} (ra : RVs K ρ h0 as cas) :
  ∃x t y u,cas=[.int x t,.int y u]∧v=.int (f x y)∧σ'=σ:=by
 refine bind_e (h) fun p hp h'=>?_
 refine bind_e (h') fun x hx h''=>?_
 refine mapn_e (h'') fun y hy e=>?_
 refine piE e ?_
 refine rEEAA (fun c d hO2 r0 r1=>?_) (two_args hp ra);refine eqS hO2 ?_
 rw [asInt_inv hx] at r0
 rw [asInt_inv hy] at r1
 refine byC fun hX=>?_;refine rE (fun u0_ hO1=>?_) (r0.intI rfl);obtain rfl:=hO1;refine hX ?_;clear hX;refine byC fun hX=>?_;refine rE (fun u0_ hO1=>?_) (r1.intI rfl);obtain rfl:=hO1;refine hX ?_;clear hX
 exact ⟨_,_,_,_,rfl,rfl,rfl⟩
theorem blt_sound {b : Blt} {as : List V} {v : V} (h : bltV b as σ = some (v, σ')) (hb : b ≠ .sorted) {cas : List Value} (hr : HR K ρ σ s.heap) (ra : RVs K ρ s.heap as cas) (hh : b ≠ .isinstance → b ≠ .len → A.handled = none) (ty : TyOK K) :
  TR K A (call (bltVal b) cas) ρ s σ' fun ρ' cv s'=>RV K ρ' s'.heap v cv:=by
 cases b with
 | sorted=>exact absurd rfl hb
 | len=>
  refine bind_e (h) fun w hw h'=>?_
  refine mapn_e (h') fun l hl e=>?_
  refine piE e ?_
  refine rEA (fun c hO1 r0=>?_) (one_arg hw ra);refine eqS hO1 ?_
  refine byC fun hX=>?_;refine rEEAAA (fun a vs hO2 hobj rs hlen=>?_) (items_inv hr hl r0);obtain rfl:=hO2;refine hX ?_;clear hX
  unfold lenMax at hlen
  have hlv:=rs.length
  have hsz:vs.toArray.size=l.length:=hlv.symm
  rcases hobj with ⟨n,e0⟩ | e0
  ·refine Calls.call_len_list ⟨_,e0,rfl,n,rfl⟩ (by lia) ?_
   rw [hsz];exact ⟨ρ,(Good.refl hr).tok _,.int _ _⟩
  ·refine len_tuple ⟨_,e0,rfl,0,rfl⟩ (by lia) ?_
   rw [hsz];exact ⟨ρ,(Good.refl hr).tok _,.int _ _⟩
 | max=>
  ·refine rEEEEAA (fun x t y u hO4 hO5 hO6=>?_) (two_sound h ra);refine eqS hO4 ?_;refine eqS hO5 ?_;refine eqS hO6 ?_
   refine max_two_ints (hh (by decide) (by decide)) fun h' tk hk=>⟨ρ,Good.grow hr hk _,?_⟩
   split <;> exact .int _ _
 | min=>
  ·refine rEEEEAA (fun x t y u hO4 hO5 hO6=>?_) (two_sound h ra);refine eqS hO4 ?_;refine eqS hO5 ?_;refine eqS hO6 ?_
   refine min_two_ints (hh (by decide) (by decide)) fun h' tk hk=>⟨ρ,Good.grow hr hk _,?_⟩
   split <;> exact .int _ _
 | int=>
  refine bind_e (h) fun w hw h'=>?_
  refine rEA (fun c hO1 r0=>?_) (one_arg hw ra);refine eqS hO1 ?_
  cases r0 with
  | bool x=>refine byC fun hX=>?_;refine rA (fun hO0 hO1=>?_) (pJ h');obtain rfl:=hO0;obtain rfl:=hO1;refine hX ?_;clear hX;exact call_int_bool ⟨ρ,(Good.refl hr).tok _,.int _ _⟩
  | int x t=>refine byC fun hX=>?_;refine rA (fun hO0 hO1=>?_) (pJ h');obtain rfl:=hO0;obtain rfl:=hO1;refine hX ?_;clear hX;exact call_int_int ⟨ρ,Good.refl hr,.int _ _⟩
  | _=>exact nn h'
 | list=>
  refine bind_e (h) fun w hw h'=>?_
  refine bind_e (h') fun l hl e=>?_
  refine rAA (fun hlen hO1 hO2=>?_) (mkList_inv e);refine eqS hO1 ?_;refine eqS hO2 ?_
  refine byC fun hX=>?_;refine rEA (fun c hO1 r0=>?_) (one_arg hw ra);obtain rfl:=hO1;refine hX ?_;clear hX
  refine byC fun hX=>?_;refine rEEEAAA (fun a vs n' hO3 e0 rs u6_=>?_) (listOf_inv hr hl r0);obtain rfl:=hO3;refine hX ?_;clear hX
  refine call_list_seq (hsz:=list_len rs hlen) a (.inl rfl) e0 rfl rfl fun h' c' hk hD=>?_
  refine ⟨ρ++[s.heap.objs.size],Good.alloc (o:=.list l) hr hk (get?_size _) ⟨vs,c',hD,rs.mono (List.prefix_append _ _) (fun a vs e=>hk _ _ e),hlen⟩ _,.obj ?_⟩
  rw [List.getElem?_append_right (by rw [hr.len];exact Nat.le_refl _),hr.len];simp
 | sum=>cases h
 | isinstance=>
  refine bind_e (h) fun p hp h'=>?_
  refine bind_e (h') fun t ht h''=>?_
  refine mapn_e (h'') fun r hi e=>?_
  refine piE e ?_
  refine rEEAA (fun c d hO2 r0 r1=>?_) (two_args hp ra);refine eqS hO2 ?_
  generalize p.2=y at ht r1
  cases r1 with
  | ty t'=>obtain rfl:=Option.some.inj ht;exact isi_sound hi hr r0 ty
  | _=>exact nn ht
end
structure StepX (X:List Addr) (ρ:List Addr) (s:Shared) (ρ':List Addr) (s':Shared):Prop where
 pre:ρ <+: ρ'
 fr:∀b o,ng s.heap b=some o→b ∉ ρ→b ∉ X→ng s'.heap b=some o
 fresh:∀a,a∈ρ'→a∈ρ∨s.heap.get? a=none
 gens:s'.gens=s.gens
 os:s'.os=s.os
theorem Step.toX (x:Step ρ s ρ' s') (X:List Addr):StepX X ρ s ρ' s':=⟨x.pre,fun b o e h u_=>x.fr b o e h,x.fresh,x.gens,x.os⟩
theorem StepX.nil (x:StepX [] ρ s ρ' s'):Step ρ s ρ' s':=⟨x.pre,fun b o e h=>x.fr b o e h (by simp),x.fresh,x.gens,x.os⟩
theorem StepX.refl (X ρ:List Addr) (s:Shared):StepX X ρ s ρ s:=(Step.refl ρ s).toX X
theorem StepX.trans {X ρ2:List Addr}{s2:Shared} (x:StepX X ρ s ρ1 s1) (y:StepX X ρ1 s1 ρ2 s2) (hs:∀a∈X,∃o,s1.heap.get? a=some o):StepX X ρ s ρ2 s2 where
 pre:=x.pre.trans y.pre
 fr:=fun b o e hb hx=>y.fr b o (x.fr b o e hb hx) (fun h1=>by
  rcases x.fresh b h1 with h | h
  ·exact hb h
  ·rw [ng_none.mpr h] at e;exact nn e) hx
 fresh:=fun a ha=>by
  rcases y.fresh a ha with h | h
  ·exact x.fresh a h
  ·by_cases hr:a∈ρ
   ·exact .inl hr
   ·right
    cases hg:s.heap.get? a with
    | none=>rfl
    | some o=>
     by_cases hx:a∈X
     ·refine rE (fun o' e'=>?_) (hs a hx);rw [e'] at h;exact ns h
     ·have:=x.fr a _ (ng_of hg) hr hx;rw [ng_none.mpr h] at this;exact nn this
 gens:=y.gens.trans x.gens
 os:=y.os.trans x.os
section
variable {K:Kx}{A:Around}
theorem HR.but {I:Addr} (x:HR K ρ σ h) (hI:I ∉ ρ) (h0:K.h0.get? I=none) (hc:∀vs,h.get? I≠some (tupObj vs)) (hk:∀b o,b≠I→h.get? b=some o→h'.get? b=some o):HR K ρ σ h':=by
 refine ⟨fun b o e=>hk b o (by rintro rfl;rw [h0] at e;exact nn e) (x.keep b o e),x.len,x.nd,x.new,fun n o a h1 h2=>?_⟩
 have ho:=x.obj n o a h1 h2
 have ha:a≠I:=by rintro rfl;exact hI (List.mem_of_getElem? h2)
 exact ho.move (List.prefix_refl _) (fun b ws eb=>hk _ _ (by rintro rfl;exact hc _ eb) eb) fun o e=>ng_keep1 (fun o e=>hk _ _ ha e) e
theorem RV.but {I:Addr}{v:V}{x:Value} (r:RV K ρ h v x) (hc:∀vs,h.get? I≠some (tupObj vs)) (hk:∀b o,b≠I→h.get? b=some o→h'.get? b=some o):RV K ρ h' v x :=
 r.mono (List.prefix_refl _) fun b ws eb=>hk _ _ (by rintro rfl;exact hc _ eb) eb
theorem RVs.but {I:Addr}{v:List V}{x:List Value} (r:RVs K ρ h v x) (hc:∀vs,h.get? I≠some (tupObj vs)) (hk:∀b o,b≠I→h.get? b=some o→h'.get? b=some o):RVs K ρ h' v x :=
 r.mono (List.prefix_refl _) fun b ws eb=>hk _ _ (by rintro rfl;exact hc _ eb) eb
theorem Ns.not_tup {a:Addr}{m:Str→Option Value} (x:h.Ns a m):∀vs,h.get? a≠some (tupObj vs):=by
 intro vs e
 revert x;refine rEEEAA fun o es ep e' hd u5_=>?_
 rw [e] at e';cases e';cases hd
theorem IsCell.not_tup {a:Addr}{v:Option Value} (x:h.IsCell a v):∀vs,h.get? a≠some (tupObj vs):=by
 intro vs e
 revert x;refine rEA fun o e' hd=>?_
 rw [e] at e';cases e';cases hd
theorem IsCell.nd {a:Addr}{v:Option Value} (x:h.IsCell a v):∀o,h.get? a=some o→¬ dy o:=by
 intro o e ⟨es,ep,hd'⟩
 revert x;refine rEA fun o' e' hd=>?_
 rw [e] at e';cases e';rw [hd'] at hd;cases hd
noncomputable def frameX (env:Env):List Addr:=env.locals::env.cells.map (·.2)
theorem mem_frameX {env:Env}{a:Addr} (h:a∈frameX env):a=env.locals∨∃x,(x,a)∈env.cells:=by
 rcases List.mem_cons.mp h with h | h
 ·exact .inl h
 ·refine byC fun hX=>?_;refine rEA (fun hO0 h1 hO2=>?_) (List.mem_map.mp h);obtain ⟨x,b⟩:=hO0;obtain rfl:=hO2;refine hX ?_;clear hX;exact .inr ⟨x,h1⟩
set_option tactic.hygienic true in
theorem lookup_set {i:Nat}{v:V} (h:setL ℓ i v=some ℓ'):i < ℓ.length∧∀j:Nat,ℓ'[j]? = if j=i then some (some v) else ℓ[j]?:=by
 unfold setL at h
 split at h
 ·rename_i hi
  obtain rfl:=Option.some.inj h
  refine ⟨hi,fun j=>?_⟩
  by_cases hj:j=i
  ·subst hj;simp [hi]
  ·rw [if_neg hj,List.getElem?_set_ne (fun e=>hj e.symm)]
 ·exact nn h
theorem FO.X_some {env:Env}{c:CEnv} (x:FO K A env c ℓ ρ h):∀a∈frameX env,∃o,h.get? a=some o:=by
 intro a ha
 rcases mem_frameX ha with rfl | ⟨y,hy⟩
 ·refine rEA (fun m hn u2_=>?_) x.ns;exact Ns.ex hn
 ·refine rAAAEA (fun u0_ u1_ u2_ o e u5_=>?_) (x.cnew y a hy);exact ⟨o,e⟩
theorem FO.X_nt {env:Env}{c:CEnv} (x:FO K A env c ℓ ρ h):∀a∈frameX env,∀vs,h.get? a≠some (tupObj vs):=by
 intro a ha vs e
 rcases mem_frameX ha with rfl | ⟨y,hy⟩
 ·refine rEA (fun m hn u2_=>?_) x.ns;exact Ns.not_tup hn vs e
 ·refine rAAAEA (fun u0_ u1_ u2_ o eo hne=>?_) (x.cnew y a hy)
  rw [e] at eo;obtain rfl:=Option.some.inj eo;exact hne _ _ rfl
theorem StepX.ex {X:List Addr} (x:StepX X ρ s ρ' s') {b:Addr}{o:Obj} (e:s.heap.get? b=some o) (hb:b ∉ ρ) (hX:b ∉ X) (hc:¬ dy o):s'.heap.get? b=some o:=ng_ex hc (x.fr b _ (ng_of e) hb hX)
theorem StepX.tups {X:List Addr} (x:StepX X ρ s ρ' s') (hr:HR K ρ σ s.heap) (hX:∀a∈X,∀vs,s.heap.get? a≠some (tupObj vs)):∀a vs,s.heap.get? a=some (tupObj vs)→s'.heap.get? a=some (tupObj vs) :=
 fun a vs e=>x.ex e (fun ha=>by
  refine rEA (fun ob h1 h2=>?_) (hr.at_ ha)
  rw [e] at h1;obtain rfl:=Option.some.inj h1;exact h2 _ rfl) (fun ha=>hX a ha vs e) nfT
set_option tactic.hygienic true in
theorem store_sound {env : Env} {c : CEnv} (fo : FO K A env c ℓ ρ s.heap) (hr : HR K ρ σ s.heap) {x : Str} {i : Nat} {v : V} {cv : Value} (hx : cVar c x = some i) (hs : setL ℓ i v = some ℓ')
  (rv:RV K ρ s.heap v cv) {Q:Unit→Shared→Prop}{E:Value→Shared→Prop} (hq:∀s' a,(a=env.locals∨(c.names.lookup x=some .cell∧(x,a)∈env.cells))→HR K ρ σ s'.heap→StepX [a] ρ s ρ s'→FO K A env c ℓ' ρ s'.heap→Q () s'):wpAny K.M A (storeName env x cv) Q E s:=by
 refine rAA (fun hk u1_ hsl=>?_) (cVar_inv hx)
 refine rA (fun hi hset=>?_) (lookup_set hs)
 have hlt:=fo.lt x i hsl
 have hfree:∀(j:Nat) w,c.next≤j→ℓ'[j]?≠some (some w):=fun j w hj=>by rw [hset,if_neg (by exact ln3 [(.lt .v1 .v2),(.le .v2 .v0)] (.no (.eq .v0 .v1)) (.d 11011) rfl hlt hj)];exact fo.free j w hj
 rcases hk with hk | hk
 ·refine rEA (fun m hn hm=>?_) fo.ns
  refine wpAny_storeName_local (show env.scope.names.lookup x=_ by rw [fo.names];exact hk) hn (fun h' hn' hs'=>?_) (by rw [fo.kind];rfl)
  have hnt:=Ns.not_tup hn
  have hbut:∀b o,b≠env.locals→s.heap.get? b=some o→h'.get? b=some o:=fun b o hb e=>(hs'.2 b hb).trans e
  refine hq _ _ (.inl rfl) (hr.but fo.lnew.1 fo.lnew.2 hnt hbut) ⟨List.prefix_refl _,fun b o e u_ hX=>ng_keep1 (fun o e=>hbut b o (fun e'=>hX (by rw [e'];exact List.mem_cons_self)) e) e,fun u_ h=>.inl h,rfl,rfl⟩ ?_
  refine ⟨fo.kind,fo.names,fo.glob,fo.blts,⟨_,hn',fun y j w h1 h2 h3=>?_⟩,fun y hy=>?_,fo.inj,fo.capart,fo.lnew,hfree,fo.lt,fo.ff.ns (fun b hb o e=>hbut b o hb e) hn',fun y a hy=>?_⟩
  ·rw [hset] at h3
   by_cases hji:j=i
   ·subst hji
    rw [if_pos rfl] at h3;cases h3
    obtain rfl:=fo.inj y x j h2 hsl
    exact ⟨cv,if_pos rfl,rv.but hnt hbut⟩
   ·rw [if_neg hji] at h3
    have hyx:y≠x:=by rintro rfl;rw [h2] at hsl;obtain rfl:=Option.some.inj hsl;exact hji rfl
    refine rEA (fun cw g1 g2=>?_) (hm y j w h1 h2 h3)
    exact ⟨cw,by rw [if_neg hyx];exact g1,g2.but hnt hbut⟩
  ·refine rEEAA (fun a o g1 g2 g3=>?_) (fo.cell y hy)
   have ha:a≠env.locals:=(fo.cnew y a (mem_of_lookup g1)).2.2.1
   refine ⟨a,o,g1,IsCell.at g2 fun o e=>hbut _ _ ha e,fun j w h2 h3=>?_⟩
   rw [hset] at h3
   have hji:j≠i:=by rintro rfl;obtain rfl:=fo.inj y x j h2 hsl;rw [hk] at hy;cases hy
   rw [if_neg hji] at h3
   refine rEA (fun cw g4 g5=>?_) (g3 j w h2 h3)
   exact ⟨cw,g4,g5.but hnt hbut⟩
  ·refine rAAAEA (fun g1 g2 g3 o g4 g5=>?_) (fo.cnew y a hy)
   exact ⟨g1,g2,g3,o,hbut _ _ g3 g4,g5⟩
 ·refine rEEAA (fun ca co hca hcell hcv=>?_) (fo.cell x hk)
  refine rAAA (fun c1 c2 c3 c4=>?_) (fo.cnew x ca (mem_of_lookup hca))
  refine wpAny_storeName_cell fo.kind (show env.scope.names.lookup x=_ by rw [fo.names];exact hk) hca hcell (fun h' hc' hs'=>?_)
  have hnt:=IsCell.not_tup hcell
  have hbut:∀b o,b≠ca→s.heap.get? b=some o→h'.get? b=some o:=fun b o hb e=>(hs'.2 b hb).trans e
  refine hq _ _ (.inr ⟨hk,mem_of_lookup hca⟩) (hr.but c1 c2 hnt hbut) ⟨List.prefix_refl _,fun b o e u_ hX=>ng_keep1 (fun o e=>hbut b o (fun e'=>hX (by rw [e'];exact List.mem_cons_self)) e) e,fun u_ h=>.inl h,rfl,rfl⟩ ?_
  refine rEA (fun m hn hm=>?_) fo.ns
  refine ⟨fo.kind,fo.names,fo.glob,fo.blts,⟨m,Ns.at hn fun o e=>hbut _ _ (fun e'=>c3 e'.symm) e,fun y j w h1 h2 h3=>?_⟩,fun y hy=>?_,fo.inj,fo.capart,fo.lnew,hfree,fo.lt,fo.ff.but (fun b hb o e=>hbut b o hb e) (IsCell.nd hcell),fun y a hy=>?_⟩
  ·rw [hset] at h3
   have hji:j≠i:=by rintro rfl;obtain rfl:=fo.inj y x j h2 hsl;rw [hk] at h1;cases h1
   rw [if_neg hji] at h3
   refine rEA (fun cw g4 g5=>?_) (hm y j w h1 h2 h3)
   exact ⟨cw,g4,g5.but hnt hbut⟩
  ·by_cases hyx:y=x
   ·subst hyx
    refine ⟨ca,some cv,hca,hc',fun j w h2 h3=>?_⟩
    rw [h2] at hsl;cases hsl
    rw [hset,if_pos rfl] at h3;cases h3
    exact ⟨cv,rfl,rv.but hnt hbut⟩
   ·refine rEEAA (fun a o g1 g2 g3=>?_) (fo.cell y hy)
    have ha:a≠ca:=by rintro rfl;exact hyx (fo.capart y x a (mem_of_lookup g1) (mem_of_lookup hca))
    refine ⟨a,o,g1,IsCell.at g2 fun o e=>hbut _ _ ha e,fun j w h2 h3=>?_⟩
    rw [hset] at h3
    have hji:j≠i:=by rintro rfl;exact hyx (fo.inj y x j h2 hsl)
    rw [if_neg hji] at h3
    refine rEA (fun cw g4 g5=>?_) (g3 j w h2 h3)
    exact ⟨cw,g4,g5.but hnt hbut⟩
  ·refine rAAAEA (fun g1 g2 g3 o g4 g5=>?_) (fo.cnew y a hy)
   refine ⟨g1,g2,g3,?_⟩
   by_cases hac:a=ca
   ·subst hac;revert hc';refine rEA fun o' e' hd'=>?_;exact ⟨o',e',fun xs n hv=>by rw [hv] at hd';cases hd'⟩
   ·exact ⟨o,hbut _ _ hac g4,g5⟩
end
inductive ItK where
 | list (n:Nat) (ax:Addr)
 | tup (ax:Addr) (cvs:List Value)
 | frz (ax:Addr) (cvs:List Value) (m:Nat)
 | rng (a:Int) (m:Nat)
noncomputable def ItSt (K:Kx) (ρ:List Addr) (I:Addr) (i:Nat) (h:Heap):ItK→Prop
 | .list n ax=>ρ[n]? = some ax∧h.IsListIter I ax i
 | .tup ax cvs=>h.IsTupleIter I ax i∧h.get? ax=some (tupObj cvs)
 | .frz ax cvs m=>h.IsListIter I ax i∧K.h0.get? ax=some (listObj cvs m)
 | .rng a m=>IsRangeIter h I (a + (i:Nat) * 1) ((m:Int) - (i:Nat)) 1
noncomputable def ItV (K:Kx) (ρ:List Addr) (h:Heap) (src:Src):ItK→Prop
 | .list n _=>src.keep=fun σ'=>σ'[n]? = some (.list src.vs)
 | .tup _ cvs=>RVs K ρ h src.vs cvs∧src.keep=fun u_=>True
 | .frz _ cvs _=>RVs K ρ h src.vs cvs∧src.keep=fun u_=>True
 | .rng a m=>src.vs=(List.range m).map (fun k=>V.int (a + (k:Nat)))∧src.keep=fun u_=>True
noncomputable def HD (K:Kx) (A:Around):Prop:=∃a,A.handled=some (.ref a)∧NoCtx K.h0 a
noncomputable def HH (K:Kx) (A:Around) (src:Src):Prop:=A.handled=none∨(HD K A∧¬ src.keep [])
structure ItOK (K:Kx) (ρ:List Addr) (I:Addr) (i:Nat) (h:Heap) (src:Src) (k:ItK):Prop where
 st:ItSt K ρ I i h k
 v:ItV K ρ h src k
 off:I ∉ ρ
 new:K.h0.get? I=none
section
variable {K:Kx}{A:Around}
theorem ItSt.obj {I : Addr} {i : Nat} {k : ItK} (x : ItSt K ρ I i h k) : ∃ o, h.get? I = some o ∧ o.cls ≠ .type "tuple" := by
 cases k with
 | list n ax=>revert x;refine rAEAA fun u0_ o e hc u4_=>?_;exact ⟨o,e,by rw [hc];decide⟩
 | tup ax cvs=>revert x;refine rA fun hO0 u1_=>?_;revert hO0;refine rEAA fun o e hc u3_=>?_;exact ⟨o,e,by rw [hc];decide⟩
 | frz ax cvs m=>revert x;refine rA fun hO0 u1_=>?_;revert hO0;refine rEAA fun o e hc u3_=>?_;exact ⟨o,e,by rw [hc];decide⟩
 | rng a m => exact ⟨_, x, by show Value.type "range_iterator" ≠ Value.type "tuple"; decide⟩
theorem ItSt.nf {I:Addr}{i:Nat}{k:ItK} (x:ItSt K ρ I i h k) {o:Obj} (e:h.get? I=some o):¬ dy o:=by
 intro hR0
 revert hR0;refine rEE fun es ep hd=>?_
 cases k with
 | list n ax=>revert x;refine rAEAA fun u0_ o' e' hc hx=>?_;rw [e] at e';obtain rfl:=Option.some.inj e';rw [hd] at hx;cases hx
 | tup ax cvs=>revert x;refine rA fun hO0 u1_=>?_;revert hO0;refine rEAA fun o' e' hc hx=>?_;rw [e] at e';obtain rfl:=Option.some.inj e';rw [hd] at hx;cases hx
 | frz ax cvs m=>revert x;refine rA fun hO0 u1_=>?_;revert hO0;refine rEAA fun o' e' hc hx=>?_;rw [e] at e';obtain rfl:=Option.some.inj e';rw [hd] at hx;cases hx
 | rng a m=>
  have x:h.get? I=some _:=x
  rw [e] at x;obtain rfl:=Option.some.inj x;cases hd
theorem ItOK.not_tup {I:Addr}{i:Nat}{src:Src}{k:ItK} (x:ItOK K ρ I i h src k):∀vs,h.get? I≠some (tupObj vs):=by
 intro vs e
 refine rEA (fun o e' hc=>?_) x.st.obj
 rw [e] at e';obtain rfl:=Option.some.inj e';exact hc rfl
theorem ItOK.move {I:Addr}{i:Nat}{src:Src}{k:ItK} (x:ItOK K ρ I i h src k) (hp:ρ <+: ρ') (hI:∀o,h.get? I=some o→h'.get? I=some o) (ht:∀a vs,h.get? a=some (tupObj vs)→h'.get? a=some (tupObj vs)) (hoff:I ∉ ρ'):ItOK K ρ' I i h' src k:=by
 refine ⟨?_,?_,hoff,x.new⟩
 ·have h:=x.st
  cases k with
  | list n ax=>revert h;refine rAEA fun h1 o e h2=>?_;exact ⟨pre_get hp h1,o,hI _ e,h2⟩
  | tup ax cvs=>revert h;refine rA fun hO0 h3=>?_;revert hO0;refine rEA fun o e h2=>?_;exact ⟨⟨o,hI _ e,h2⟩,ht _ _ h3⟩
  | frz ax cvs m=>revert h;refine rA fun hO0 h3=>?_;revert hO0;refine rEA fun o e h2=>?_;exact ⟨⟨o,hI _ e,h2⟩,h3⟩
  | rng a m=>exact hI _ h
 ·have h:=x.v
  cases k with
  | list n ax=>exact h
  | tup ax cvs=>exact ⟨h.1.mono hp ht,h.2⟩
  | frz ax cvs m=>exact ⟨h.1.mono hp ht,h.2⟩
  | rng a m=>exact h
theorem ItOK.ex0 {I:Addr}{i:Nat}{src:Src}{k:ItK} (x:ItOK K ρ I i h src k):∃o,h.get? I=some o:=let ⟨o,e,_⟩:=x.st.obj;⟨o,e⟩
theorem ItOK.step {I:Addr}{i:Nat}{src:Src}{k:ItK} (x:ItOK K ρ I i s.heap src k) (hr:HR K ρ σ s.heap) (st:Step ρ s ρ' s'):ItOK K ρ' I i s'.heap src k:=by
 refine rEA (fun o eo u2_=>?_) x.st.obj
 have hI:∀o,s.heap.get? I=some o→s'.heap.get? I=some o:=fun o e=>st.ex e x.off (x.st.nf e)
 refine ⟨?_,?_,fun hm=>?_,x.new⟩
 ·have h:=x.st
  cases k with
  | list n ax=>revert h;refine rAEA fun h1 o e h2=>?_;exact ⟨pre_get st.pre h1,o,hI _ e,h2⟩
  | tup ax cvs=>revert h;refine rA fun hO0 h3=>?_;revert hO0;refine rEA fun o e h2=>?_;exact ⟨⟨o,hI _ e,h2⟩,st.tups hr _ _ h3⟩
  | frz ax cvs m=>revert h;refine rA fun hO0 h3=>?_;revert hO0;refine rEA fun o e h2=>?_;exact ⟨⟨o,hI _ e,h2⟩,h3⟩
  | rng a m=>exact hI _ h
 ·have h:=x.v
  cases k with
  | list n ax=>exact h
  | tup ax cvs=>exact ⟨h.1.step hr st,h.2⟩
  | frz ax cvs m=>exact ⟨h.1.step hr st,h.2⟩
  | rng a m=>exact h
 ·rcases st.fresh I hm with h | h
  ·exact x.off h
  ·rw [eo] at h;exact ns h
theorem ItOK.but {I D:Addr}{i:Nat}{src:Src}{k:ItK} (x:ItOK K ρ I i h src k) (hD:∀vs,h.get? D≠some (tupObj vs)) (hne:I≠D) (hk:∀b o,b≠D→h.get? b=some o→h'.get? b=some o):ItOK K ρ I i h' src k:=by
 refine ⟨?_,?_,x.off,x.new⟩
 ·have h:=x.st
  cases k with
  | list n ax=>revert h;refine rAEA fun h1 o e h2=>?_;exact ⟨h1,o,hk _ _ hne e,h2⟩
  | tup ax cvs=>revert h;refine rA fun hO0 h3=>?_;revert hO0;refine rEA fun o e h2=>?_;exact ⟨⟨o,hk _ _ hne e,h2⟩,hk _ _ (by rintro rfl;exact hD _ h3) h3⟩
  | frz ax cvs m=>revert h;refine rA fun hO0 h3=>?_;revert hO0;refine rEA fun o e h2=>?_;exact ⟨⟨o,hk _ _ hne e,h2⟩,h3⟩
  | rng a m=>exact hk _ _ hne h
 ·have h:=x.v
  cases k with
  | list n ax=>exact h
  | tup ax cvs=>exact ⟨h.1.but hD hk,h.2⟩
  | frz ax cvs m=>exact ⟨h.1.but hD hk,h.2⟩
  | rng a m=>exact h
theorem HH.none {src:Src} (x:HH K A src) (h:src.keep=fun u_=>True):A.handled=none:=x.resolve_right fun y=>y.2 (by rw [h];trivial)
theorem it_next {I : Addr} {i : Nat} {src : Src} {k : ItK} {v : V} (hh : HH K A src) (x : ItOK K ρ I i s.heap src k) (hr : HR K ρ σ s.heap) (hkeep : src.keep σ) (hv : src.vs[i]? = some v)
  {Q:Option Value→Shared→Prop}{E:Value→Shared→Prop}
  (hq:∀cv h' tk,(∀b o,b≠I→s.heap.get? b=some o→h'.get? b=some o)→HR K ρ σ h'→RV K ρ h' v cv→ItOK K ρ I (i + 1) h' src k→Q (some cv) { s with heap:=h',toks:=tk }) :
  wpAny K.M A (pyNext (.ref I)) Q E s:=by
 have hnt:=x.not_tup
 have key:∀cv h' tk,(∀b o,b≠I→s.heap.get? b=some o→h'.get? b=some o)→RV K ρ s.heap v cv→ItSt K ρ I (i + 1) h' k→Q (some cv) { s with heap:=h',toks:=tk }:=by
  intro cv h' tk hk rv st
  refine hq cv h' tk hk (hr.but x.off x.new hnt hk) (rv.but hnt hk) ⟨st,?_,x.off,x.new⟩
  have h:=x.v
  cases k with
  | list n ax=>exact h
  | tup ax cvs=>exact ⟨h.1.but hnt hk,h.2⟩
  | frz ax cvs m=>exact ⟨h.1.but hnt hk,h.2⟩
  | rng a m=>exact h
 have hst:=x.st
 have hvv:=x.v
 cases k with
 | list n ax=>
  revert hst;refine rA fun h1 hit=>?_
  have hv':src.keep=fun σ'=>σ'[n]? = some (.list src.vs):=hvv
  rw [hv'] at hkeep
  refine rEEAA (fun cvs m e rs u4_=>?_) (hr.obj n _ ax hkeep h1)
  refine rEA (fun cv hc rv=>?_) (rs.get hv)
  refine wpAny_pyNext_list_item hit ⟨_,e,rfl,m,rfl⟩ (x:=cv) (by simpa using hc) fun h' hit' hs'=>?_
  exact key cv h' s.toks (fun b o hb e=>(hs'.2 b hb).trans e) rv ⟨h1,hit'⟩
 | tup ax cvs=>
  revert hst;refine rA fun hit e=>?_
  refine rEA (fun cv hc rv=>?_) (hvv.1.get hv)
  refine wpAny_pyNext_tuple_item hit ⟨_,e,rfl,0,rfl⟩ (x:=cv) (by simpa using hc) fun h' hit' hs'=>?_
  refine key cv h' s.toks (fun b o hb e=>(hs'.2 b hb).trans e) rv ⟨hit',(hs'.2 ax ?_).trans e⟩
  rintro rfl
  revert hit;refine rEAA fun o e' hc' u3_=>?_
  rw [e] at e'; obtain rfl := Option.some.inj e'; exact absurd hc' (show ¬ Value.type "tuple" = Value.type "tuple_iterator" by decide)
 | frz ax cvs m=>
  revert hst;refine rA fun hit e=>?_
  refine rEA (fun cv hc rv=>?_) (hvv.1.get hv)
  refine wpAny_pyNext_list_item hit ⟨_,hr.keep _ _ e,rfl,m,rfl⟩ (x:=cv) (by simpa using hc) fun h' hit' hs'=>?_
  exact key cv h' s.toks (fun b o hb e=>(hs'.2 b hb).trans e) rv ⟨hit',e⟩
 | rng a m=>
  have hvs:src.vs=(List.range m).map (fun k=>V.int (a + (k:Nat))):=hvv.1
  have hi:i < m:=by have:=(List.getElem?_eq_some_iff.mp hv).1;rw [hvs] at this;simpa using this
  have ev:v=.int (a + (i:Nat)):=by rw [hvs] at hv;simp [hi] at hv;exact hv.symm
  subst ev
  refine (Walks.range (hh.none x.v.2) I a 1 m).item i s Q E hi hst fun cv h' tk hP st' hk=>?_
  revert hP;refine rE fun t hO1=>?_;refine eqS hO1 ?_
  rw [Int.mul_one]
  exact key _ h' tk (fun b o hb e=>hk b o (by simpa using hb) e) (.int _ _) st'
theorem it_done {I : Addr} {i : Nat} {src : Src} {k : ItK} (hh : HH K A src) (x : ItOK K ρ I i s.heap src k) (hr : HR K ρ σ s.heap) (hkeep : src.keep σ) (hv : i = src.vs.length)
  {Q:Option Value→Shared→Prop}{E:Value→Shared→Prop}
  (hq:∀h' tk,(∀b o,b≠I→s.heap.get? b=some o→h'.get? b=some o)→HR K ρ σ h'→Q none { s with heap:=h',toks:=tk }):wpAny K.M A (pyNext (.ref I)) Q E s:=by
 have hnt:=x.not_tup
 have key:∀h' tk,(∀b o,b≠I→s.heap.get? b=some o→h'.get? b=some o)→Q none { s with heap:=h',toks:=tk }:=fun h' tk hk=>hq h' tk hk (hr.but x.off x.new hnt hk)
 have hst:=x.st
 have hvv:=x.v
 cases k with
 | list n ax=>
  revert hst;refine rA fun h1 hit=>?_
  have hv':src.keep=fun σ'=>σ'[n]? = some (.list src.vs):=hvv
  rw [hv'] at hkeep
  refine rEEAA (fun cvs m e rs u4_=>?_) (hr.obj n _ ax hkeep h1)
  have:=rs.length
  have he:(cvs.toArray)[i]? = none:=(by simp;exact ln3 [(.eq .v1 .v2),(.eq .v2 .v0)] (.le .v0 .v1) (.d 110101) rfl hv this)
  rcases hh with hh | ⟨⟨a,ha,hc⟩,_⟩
  ·exact wpAny_pyNext_list_end hh hit ⟨_,e,rfl,m,rfl⟩ he fun h' hs'=>key h' s.toks fun b o hb e=>hs' b o hb e
  ·revert hc;refine rEEAA fun ox vs g1 g2 g3=>?_
   exact list_end_h ha ⟨ox,vs,hr.keep _ _ g1,g2,g3⟩ (by rintro rfl;rw [x.new] at g1;exact nn g1) hit ⟨_,e,rfl,m,rfl⟩ he fun h' hs'=>key h' s.toks fun b o hb e=>hs' b o hb e
 | tup ax cvs=>
  revert hst;refine rA fun hit e=>?_
  have:=hvv.1.length
  exact (Walks.tuple (hh.none x.v.2) I ax (by rintro rfl; revert hit; refine rEAA fun o e' hc' u3_ => ?_; rw [e] at e'; obtain rfl := Option.some.inj e'; exact absurd hc' (show ¬ Value.type "tuple" = Value.type "tuple_iterator" by decide)) cvs.toArray).done s Q E (by rw [List.size_toArray, ← this, ← hv]; exact ⟨hit, _, e, rfl, 0, rfl⟩) fun h' tk hk => key h' tk fun b o hb e => hk b o (by simpa using hb) e
 | frz ax cvs m=>
  revert hst;refine rA fun hit e=>?_
  have:=hvv.1.length
  exact wpAny_pyNext_list_end (hh.none hvv.2) hit ⟨_,hr.keep _ _ e,rfl,m,rfl⟩ (by simp;exact ln3 [(.eq .v1 .v2),(.eq .v2 .v0)] (.le .v0 .v1) (.d 110101) rfl hv this) fun h' hs'=>key h' s.toks fun b o hb e=>hs' b o hb e
 | rng a m=>
  have hvs:src.vs=(List.range m).map (fun k=>V.int (a + (k:Nat))):=hvv.1
  have him:i=m:=by rw [hv,hvs];simp
  subst him
  exact (Walks.range (hh.none x.v.2) I a 1 i).done s Q E hst fun h' tk hk=>key h' tk fun b o hb e=>hk b o (by simpa using hb) e
theorem it_self {I : Addr} {i : Nat} {src : Src} {k : ItK} (hh : HH K A src) (x : ItOK K ρ I i s.heap src k) {Q : Value → Shared → Prop} {E : Value → Shared → Prop} (hq : Q (.ref I) s) :
  wpAny K.M A (pyIter (.ref I)) Q E s:=by
 have hst:=x.st
 cases k with
 | list n ax=>exact wpAny_pyIter_listiter hst.2 hq
 | tup ax cvs=>
  revert hst;refine rA fun hit e=>?_
  exact (Walks.tuple (hh.none x.v.2) I ax (by rintro rfl; revert hit; refine rEAA fun o e' hc' u3_ => ?_; rw [e] at e'; obtain rfl := Option.some.inj e'; exact absurd hc' (show ¬ Value.type "tuple" = Value.type "tuple_iterator" by decide)) cvs.toArray).self i s Q E ⟨hit, _, e, rfl, 0, rfl⟩ hq
 | frz ax cvs m=>exact wpAny_pyIter_listiter hst.1 hq
 | rng a m=>exact (Walks.range (hh.none x.v.2) I a 1 m).self i s Q E hst hq
theorem Good.tmp (hr:HR K ρ σ s.heap) (o:Obj) (t:Nat):Good K ρ s ρ σ { s with heap:=s.heap.push o,toks:=t }:=Good.grow hr (fun b o' e=>Heap.get?_push_of_some _ e) t
theorem fresh_off (hr:HR K ρ σ s.heap):s.heap.objs.size ∉ ρ∧K.h0.get? s.heap.objs.size=none:=by
 refine ⟨fun hm=>?_,?_⟩
 ·refine rEA (fun ob e u2_=>?_) (hr.at_ hm);rw [get?_size] at e;exact nn e
 ·cases e:K.h0.get? s.heap.objs.size with
  | none=>rfl
  | some o=>have:=hr.keep _ _ e;rw [get?_size] at this;exact nn this
set_option tactic.hygienic true in
theorem it_make {x : V} {src : Src} {cx : Value}
  (h:(match x with
   | .tup l=>some (R.ok (⟨l,fun u_=>True⟩ : Src),σ)
   | .frz l=>some (.ok ⟨l.map .int,fun u_=>True⟩,σ)
   | .obj n=>match σ[n]? with
    | some (.list l)=>some (.ok ⟨l,fun σ'=>σ'[n]? = some (.list l)⟩,σ)
    | _=>.none
   | _=>.none)=some (.ok src,σ)) (hr:HR K ρ σ s.heap) (rx:RV K ρ s.heap x cx)
  {Q:Value→Shared→Prop}{E:Value→Shared→Prop}
  (hq:∀h' k,Good K ρ s ρ σ { s with heap:=h' }→ItOK K ρ s.heap.objs.size 0 h' src k→src.keep σ→Q (.ref s.heap.objs.size) { s with heap:=h' }):wpAny K.M A (pyIter cx) Q E s:=by
 refine rA (fun f1 f2=>?_) (fresh_off hr)
 cases x with
 | tup l=>
  refine rEEAAA (fun a vs hO2 e r hl=>?_) (rx.tupI rfl);refine eqS hO2 ?_
  cases h
  refine wpAny_pyIter_tuple ⟨_,e,rfl,0,rfl⟩ (hq _ (.tup a vs) (Good.tmp hr _ _) ⟨⟨⟨_,Heap.get?_push_size _ rfl,rfl,rfl⟩,Heap.get?_push_of_some _ e⟩,⟨r.mono (List.prefix_refl _) fun u_ v_ e=>Heap.get?_push_of_some _ e,rfl⟩,f1,f2⟩ trivial)
 | frz l=>
  cases rx with
  | frz e r hl=>
   rename_i a vs n
   cases h
   refine wpAny_pyIter_list ⟨_,hr.keep _ _ e,rfl,n,rfl⟩ (hq _ (.frz a vs n) (Good.tmp hr _ _) ⟨⟨⟨_,Heap.get?_push_size _ rfl,rfl,rfl⟩,e⟩,⟨r.mono (List.prefix_refl _) fun u_ v_ e=>Heap.get?_push_of_some _ e,rfl⟩,f1,f2⟩ trivial)
 | obj n=>
  refine rEA (fun a hO1 ha=>?_) (rx.objI rfl);refine eqS hO1 ?_
  simp only at h
  split at h
  ·rename_i l hl
   cases h
   refine rEEAA (fun vs m e r u4_=>?_) (hr.obj _ _ _ hl ha)
   refine wpAny_pyIter_list ⟨_,e,rfl,m,rfl⟩ (hq _ (.list n a) (Good.tmp hr _ _) ⟨⟨ha,⟨_,Heap.get?_push_size _ rfl,rfl,rfl⟩⟩,rfl,f1,f2⟩ hl)
  ·exact nn h
 | _=>exact nn h
end
noncomputable def PT (K:Kx) (A:Around) (env:Env) (c:CEnv) (cl:Cl) (e:Expr) (a:Ex):Prop :=
 ∀ℓ σ v σ' b,evalE cl a ℓ σ=some (.ok v,σ')→truth v=some b→∀ρ s,HR K ρ σ s.heap→FO K A env c ℓ ρ s.heap→TR K A (isTrue e env (eval e env)) ρ s σ' fun u_ r v_=>r=b
noncomputable def PEs (K:Kx) (A:Around) (env:Env) (c:CEnv) (cl:Cl) (es:List Expr) (a:Es):Prop :=
 ∀pos ℓ σ vs σ',evalEs cl a ℓ σ=some (.ok vs,σ')→∀ρ s,HR K ρ σ s.heap→FO K A env c ℓ ρ s.heap→TR K A (spliced (backTo pos (starEach es env))) ρ s σ' fun ρ' cvs s'=>RVs K ρ' s'.heap vs cvs
noncomputable def PO (K:Kx) (A:Around) (env:Env) (c:CEnv) (cl:Cl) (e:Option Expr) (a:Oe):Prop :=
 ∀ℓ σ v σ',evalOe cl a ℓ σ=some (.ok v,σ')→∀ρ s,HR K ρ σ s.heap→FO K A env c ℓ ρ s.heap→TR K A (evalPart e env) ρ s σ' fun ρ' cv s'=>RV K ρ' s'.heap v cv
section
variable {K:Kx}{A:Around}{env:Env}{c:CEnv}{cl:Cl}{T:Tabs}
theorem TR.stand {α:Type}{t:Sem α}{pos:Pos}{P:List Addr→α→Shared→Prop} (h:TR K A t ρ s σ' P):TR K A (standAt pos >>= fun u_=>t) ρ s σ' P:=wpAny_bind (wpAny_standAt h)
theorem TR.hold {α:Type}{t:Sem α}{vs:List Value}{P:List Addr→α→Shared→Prop} (h:TR K A t ρ s σ' P):TR K A (holding vs t) ρ s σ' P:=wpAny_holding h
theorem TR.oper {t:Sem Value}{vs:List Value}{P:List Addr→Value→Shared→Prop} (h:TR K A t ρ s σ' P):TR K A (operate vs t) ρ s σ' P:=wpAny_operating h
theorem truthy_sound {v:V}{b:Bool} (e:truth v=some b) {cv:Value} (r:RV K ρ s.heap v cv) {Q:Bool→Shared→Prop}{E:Value→Shared→Prop} (hq:Q b s):wpAny K.M A (truthy cv) Q E s:=by
 cases v with
 | bool b'=>obtain rfl:=r.boolI rfl;obtain rfl:=Option.some.inj e;exact wpAny_truthy_bool hq
 | none=>obtain rfl:=r.noneI rfl;obtain rfl:=Option.some.inj e;exact wpAny_pure hq
 | _=>exact nn e
theorem pt_plain {e:Expr}{a:Ex} (h:PE K A env c cl e a) (hw:∀w,isTrue e env w=(do let v ← w;standAt e.pos;holding [v] (truthy v))):PT K A env c cl e a:=by
 intro ℓ σ v σ' b he hb ρ s hr fo
 rw [hw]
 exact TR.bind (h ℓ σ v σ' he ρ s hr fo) fun ρ1 cv s1 g1 rv=>TR.stand (TR.hold (truthy_sound hb rv ⟨ρ1,Good.refl g1.hr,rfl⟩))
theorem pe_bin {l r:Expr}{op:Operator}{pos:Pos}{a b:Ex}{o:Bop} (ho:cOp op=some o) (hl:PE K A env c cl l a) (hrr:PE K A env c cl r b):PE K A env c cl (.BinOp l op r pos) (.bin o a b):=by
 intro ℓ σ v σ' he ρ s hr fo
 skip
 refine bok_e (he) fun x σ1 h1 he=>?_
 refine bok_e (he) fun y σ2 h2 he=>?_
 have he:=okH_inv he
 rw [eval_BinOp]
 refine TR.bind (hl ℓ σ x σ1 h1 ρ s hr fo) fun ρ1 cx s1 g1 rx=>?_
 refine TR.bind (TR.hold (hrr ℓ σ1 y σ2 h2 ρ1 s1 g1.hr (fo.step hr g1.st))) fun ρ2 cy s2 g2 ry=>?_
 exact TR.stand (TR.oper (binop_sound he g2.hr (rx.step g1.hr g2.st) ry ho))
theorem pe_neg {x:Expr}{pos:Pos}{a:Ex} (h:PE K A env c cl x a):PE K A env c cl (.UnaryOp .USub x pos) (.neg a):=by
 intro ℓ σ v σ' he ρ s hr fo
 skip
 refine bok_e (he) fun y σ1 h1 he=>?_
 show TR K A (do let v ← eval x env;standAt pos;holding [v] (unaryOp .USub v)) ρ s σ' _
 refine TR.bind (h ℓ σ y σ1 h1 ρ s hr fo) fun ρ1 cy s1 g1 ry=>TR.stand (TR.hold ?_)
 cases y with
 | int i=>refine rE (fun u0_ hO1=>?_) (ry.intI rfl);refine eqS hO1 ?_;refine byC fun hX=>?_;refine rA (fun hO0 hO1=>?_) (okJ he);obtain rfl:=hO0;obtain rfl:=hO1;refine hX ?_;clear hX;exact neg_int ⟨ρ1,(Good.refl g1.hr).tok _,.int _ _⟩
 | _=>exact nn he
theorem pe_not {x:Expr}{pos:Pos}{a:Ex} (h:PE K A env c cl x a):PE K A env c cl (.UnaryOp .Not x pos) (.not a):=by
 intro ℓ σ v σ' he ρ s hr fo
 skip
 refine bok_e (he) fun y σ1 h1 he=>?_
 refine byC fun hX=>?_;refine rA (fun hx hO1=>?_) (okX_inv he);obtain rfl:=hO1;refine hX ?_;clear hX
 refine byC fun hX=>?_;refine rEA (fun b hb hO2=>?_) (Option.map_eq_some_iff.mp hx);obtain rfl:=hO2;refine hX ?_;clear hX
 show TR K A (do let v ← eval x env;standAt pos;holding [v] (unaryOp .Not v)) ρ s σ' _
 refine TR.bind (h ℓ σ y σ' h1 ρ s hr fo) fun ρ1 cy s1 g1 ry=>TR.stand (TR.hold ?_)
 exact not_value (truthy_sound hb ry ⟨ρ1,Good.refl g1.hr,.bool _⟩)
theorem pt_not {x:Expr}{pos:Pos}{a:Ex} (h:PT K A env c cl x a):PT K A env c cl (.UnaryOp .Not x pos) (.not a):=by
 intro ℓ σ v σ' b he hb ρ s hr fo
 skip
 refine bok_e (he) fun y σ1 h1 he=>?_
 refine byC fun hX=>?_;refine rA (fun hx hO1=>?_) (okX_inv he);obtain rfl:=hO1;refine hX ?_;clear hX
 refine byC fun hX=>?_;refine rEA (fun b' hb' hO2=>?_) (Option.map_eq_some_iff.mp hx);obtain rfl:=hO2;refine hX ?_;clear hX
 obtain rfl:=Option.some.inj hb
 exact wpAny_isTrue_Not (wpAny_mono (h ℓ σ y σ' b' h1 hb' ρ s hr fo) (fun r s' hq=>let ⟨ρ',g,e⟩:=hq;⟨ρ',g,by rw [e]⟩) fun u_ v_ f=>f)
set_option tactic.hygienic true in
theorem pe_ife {t b o:Expr}{pos:Pos}{x y z:Ex} (ht:PT K A env c cl t x) (hb:PE K A env c cl b y) (ho:PE K A env c cl o z):PE K A env c cl (.IfExp t b o pos) (.ife x y z):=by
 intro ℓ σ v σ' he ρ s hr fo
 skip
 refine bok_e (he) fun w σ1 h1 he=>?_
 show TR K A (do if ← isTrue t env (eval t env) then eval b env else eval o env) ρ s σ' _
 split at he
 ·rename_i hw
  refine TR.bind (ht ℓ σ w σ1 true h1 hw ρ s hr fo) fun ρ1 r s1 g1 e=>?_
  subst e
  exact hb ℓ σ1 v σ' he ρ1 s1 g1.hr (fo.step hr g1.st)
 ·rename_i hw
  refine TR.bind (ht ℓ σ w σ1 false h1 hw ρ s hr fo) fun ρ1 r s1 g1 e=>?_
  subst e
  exact ho ℓ σ1 v σ' he ρ1 s1 g1.hr (fo.step hr g1.st)
 ·exact nn he
set_option tactic.hygienic true in
theorem pt_ife {t b o:Expr}{pos:Pos}{x y z:Ex} (ht:PT K A env c cl t x) (hb:PT K A env c cl b y) (ho:PT K A env c cl o z):PT K A env c cl (.IfExp t b o pos) (.ife x y z):=by
 intro ℓ σ v σ' bb he hbb ρ s hr fo
 skip
 refine bok_e (he) fun w σ1 h1 he=>?_
 show TR K A (do if ← isTrue t env (eval t env) then isTrue b env (eval b env) else isTrue o env (eval o env)) ρ s σ' _
 split at he
 ·rename_i hw
  refine TR.bind (ht ℓ σ w σ1 true h1 hw ρ s hr fo) fun ρ1 r s1 g1 e=>?_
  subst e
  exact hb ℓ σ1 v σ' bb he hbb ρ1 s1 g1.hr (fo.step hr g1.st)
 ·rename_i hw
  refine TR.bind (ht ℓ σ w σ1 false h1 hw ρ s hr fo) fun ρ1 r s1 g1 e=>?_
  subst e
  exact ho ℓ σ1 v σ' bb he hbb ρ1 s1 g1.hr (fo.step hr g1.st)
 ·exact nn he
noncomputable def PB (K:Kx) (A:Around) (env:Env) (c:CEnv) (cl:Cl) (op:BoolOp) (es:List Expr) (a:Ex):Prop :=
 (∀pos ℓ σ v σ',evalE cl a ℓ σ=some (.ok v,σ')→∀ρ s,HR K ρ σ s.heap→FO K A env c ℓ ρ s.heap→TR K A (boolOp pos op (evalEach es env)) ρ s σ' fun ρ' cv s'=>RV K ρ' s'.heap v cv)∧
 (∀ℓ σ v σ' b,evalE cl a ℓ σ=some (.ok v,σ')→truth v=some b→∀ρ s,HR K ρ σ s.heap→FO K A env c ℓ ρ s.heap→TR K A (allTrue op es env) ρ s σ' fun u_ r v_=>r=b)
theorem allTrue_one (op:BoolOp) (e:Expr) {b:Bool} (h:TR K A (isTrue e env (eval e env)) ρ s σ' fun u_ r v_=>r=b):TR K A (allTrue op [e] env) ρ s σ' fun u_ r v_=>r=b:=by
 have e1:allTrue op [e] env=(do match op,← isTrue e env (eval e env) with | .And,false=>pure false | .Or,true=>pure true | _,_=>allTrue op [] env):=rfl
 rw [e1]
 refine TR.bind h fun ρ1 r s1 g1 er=>?_
 subst er
 cases op <;> cases r <;> exact TR.pure g1.hr rfl
theorem pb_one {op:BoolOp}{e:Expr}{a:Ex} (h:PE K A env c cl e a) (ht:PT K A env c cl e a):PB K A env c cl op [e] a :=
 ⟨fun pos ℓ σ v σ' he ρ s hr fo=>h ℓ σ v σ' he ρ s hr fo,fun ℓ σ v σ' b he hb ρ s hr fo=>allTrue_one op e (ht ℓ σ v σ' b he hb ρ s hr fo)⟩
theorem bool_inv {op : BoolOp} {a b : Ex} {v : V} (he : evalE cl (boolEx op a b) ℓ σ = some (.ok v, σ')) :
  ∃x σ1 t,evalE cl a ℓ σ=some (.ok x,σ1)∧truth x=some t∧((t=(match op with | .And=>true | .Or=>false)∧evalE cl b ℓ σ1=some (.ok v,σ'))∨(t=(match op with | .And=>false | .Or=>true)∧x=v∧σ1=σ')):=by
 cases op with
 | And=>
  refine bok_e ((show bok (evalE cl a ℓ σ) _=_ from he)) fun x σ1 h1 h2=>?_
  refine ⟨x,σ1,?_⟩
  cases hx:truth x with
  | none=>rw [hx] at h2;exact nn h2
  | some t=>
   rw [hx] at h2
   refine ⟨t,h1,rfl,?_⟩
   cases t with
   | true=>exact .inl ⟨rfl,h2⟩
   | false=>exact .inr ⟨rfl,okJ h2⟩
 | Or=>
  refine bok_e ((show bok (evalE cl a ℓ σ) _=_ from he)) fun x σ1 h1 h2=>?_
  refine ⟨x,σ1,?_⟩
  cases hx:truth x with
  | none=>rw [hx] at h2;exact nn h2
  | some t=>
   rw [hx] at h2
   refine ⟨t,h1,rfl,?_⟩
   cases t with
   | false=>exact .inl ⟨rfl,h2⟩
   | true=>exact .inr ⟨rfl,okJ h2⟩
theorem pb_cons {op : BoolOp} {e e' : Expr} {r : List Expr} {a b : Ex} (h : PE K A env c cl e a) (ht : PT K A env c cl e a) (hb : PB K A env c cl op (e' :: r) b) :
  PB K A env c cl op (e::e'::r) (boolEx op a b):=by
 constructor
 ·intro pos ℓ σ v σ' he ρ s hr fo
  refine rEEEAA (fun x σ1 t h1 hx hd=>?_) (bool_inv he)
  have e1 : boolOp pos op (evalEach (e :: e' :: r) env) = (do
    let v ← eval e env
    standAt pos
    let t ← holding [v] (truthy v)
    match op,t with
    | .And,false | .Or,true=>pure v
    | _,_=>boolOp pos op (evalEach (e'::r) env)):=rfl
  rw [e1]
  refine TR.bind (h ℓ σ x σ1 h1 ρ s hr fo) fun ρ1 cx s1 g1 rx=>TR.stand (wpAny_bind (wpAny_holding (truthy_sound hx rx ?_)))
  rcases hd with ⟨rfl,he2⟩ | ⟨rfl,rfl,rfl⟩
  ·cases op <;> exact hb.1 pos ℓ σ1 v σ' he2 ρ1 s1 g1.hr (fo.step hr g1.st)
  ·cases op <;> exact TR.pure g1.hr rx
 ·intro ℓ σ v σ' bb he hbb ρ s hr fo
  refine rEEEAA (fun x σ1 t h1 hx hd=>?_) (bool_inv he)
  have e1:allTrue op (e::e'::r) env=(do match op,← isTrue e env (eval e env) with | .And,false=>pure false | .Or,true=>pure true | _,_=>allTrue op (e'::r) env):=rfl
  rw [e1]
  refine TR.bind (ht ℓ σ x σ1 t h1 hx ρ s hr fo) fun ρ1 q s1 g1 er=>?_
  subst er
  rcases hd with ⟨rfl,he2⟩ | ⟨rfl,rfl,rfl⟩
  ·cases op <;> exact hb.2 ℓ σ1 v σ' bb he2 hbb ρ1 s1 g1.hr (fo.step hr g1.st)
  ·refine siE (hx.symm.trans hbb) ?_
   cases op <;> exact TR.pure g1.hr rfl
noncomputable def PC (K:Kx) (A:Around) (env:Env) (c:CEnv) (cl:Cl) (ops:List CmpOp) (es:List Expr) (r:Ch):Prop :=
 (∀pos x ℓ σ v σ',evalCh cl x r ℓ σ=some (.ok v,σ')→∀ρ s cx,HR K ρ σ s.heap→FO K A env c ℓ ρ s.heap→RV K ρ s.heap x cx→TR K A (compareChain pos cx ops (evalEach es env)) ρ s σ' fun ρ' cv s'=>RV K ρ' s'.heap v cv)∧
 (∀pos x ℓ σ v σ' b,evalCh cl x r ℓ σ=some (.ok v,σ')→truth v=some b→∀ρ s cx,HR K ρ σ s.heap→FO K A env c ℓ ρ s.heap→RV K ρ s.heap x cx→TR K A (testChain pos cx ops (evalEach es env)) ρ s σ' fun u_ q v_=>q=b)
theorem pc_one {op:CmpOp}{e:Expr}{a:Ex} (hu:A.units + 16 < cLine) (h:PE K A env c cl e a):PC K A env c cl [op] [e] (.one (cCop op) a):=by
 constructor
 ·intro pos x ℓ σ v σ' he ρ s cx hr fo rx
  skip
  refine bok_e (he) fun y σ1 h1 he=>?_
  refine byC fun hX=>?_;refine rA (fun hx hO1=>?_) (okX_inv he);obtain rfl:=hO1;refine hX ?_;clear hX
  refine byC fun hX=>?_;refine rEA (fun b hb hO2=>?_) (Option.map_eq_some_iff.mp hx);obtain rfl:=hO2;refine hX ?_;clear hX
  show TR K A (do let rv ← holding [cx] (eval e env);standAt pos;operate [cx,rv] (compareOp op cx rv)) ρ s σ' _
  refine TR.bind (TR.hold (h ℓ σ y σ' h1 ρ s hr fo)) fun ρ1 cy s1 g1 ry=>TR.stand (TR.oper ?_)
  exact cmpop_sound hb g1.hr (rx.step hr g1.st) ry rfl hu ⟨ρ1,Good.refl g1.hr,.bool _⟩
 ·intro pos x ℓ σ v σ' bb he hbb ρ s cx hr fo rx
  skip
  refine bok_e (he) fun y σ1 h1 he=>?_
  refine byC fun hX=>?_;refine rA (fun hx hO1=>?_) (okX_inv he);obtain rfl:=hO1;refine hX ?_;clear hX
  refine byC fun hX=>?_;refine rEA (fun b hb hO2=>?_) (Option.map_eq_some_iff.mp hx);obtain rfl:=hO2;refine hX ?_;clear hX
  obtain rfl:=Option.some.inj hbb
  show TR K A (do let rv ← holding [cx] (eval e env);standAt pos;let c ← operate [cx,rv] (compareOp op cx rv);holding [c] (truthy c)) ρ s σ' _
  refine TR.bind (TR.hold (h ℓ σ y σ' h1 ρ s hr fo)) fun ρ1 cy s1 g1 ry=>TR.stand (wpAny_bind (wpAny_operating ?_))
  exact cmpop_sound hb g1.hr (rx.step hr g1.st) ry rfl hu (wpAny_holding (wpAny_truthy_bool ⟨ρ1,Good.refl g1.hr,rfl⟩))
theorem wpAny_release {vs keep:List Value}{Q:Unit→Shared→Prop}{E:Value→Shared→Prop} (h:Q () s):wpAny K.M A (release vs keep) Q E s:=fun Γ p u_=>by rw [Sem.wp_release];exact h
set_option tactic.hygienic true in
theorem pc_more {op op' : CmpOp} {ops : List CmpOp} {e e' : Expr} {es : List Expr} {a : Ex} {r : Ch} (hu : A.units + 16 < cLine) (h : PE K A env c cl e a) (hr' : PC K A env c cl (op' :: ops) (e' :: es) r) :
  PC K A env c cl (op::op'::ops) (e::e'::es) (.more (cCop op) a r):=by
 constructor
 ·intro pos x ℓ σ v σ' he ρ s cx hr fo rx
  skip
  refine bok_e (he) fun y σ1 h1 he=>?_
  show TR K A (do
   let rv ← holding [cx] (eval e env)
   standAt pos
   let c ← holding [cx,rv] (compareOp op cx rv)
   release [cx,rv] [c]
   if ← holding [c,rv] (truthy c) then compareChain pos rv (op'::ops) (evalEach (e'::es) env) else pure c) ρ s σ' _
  refine TR.bind (TR.hold (h ℓ σ y σ1 h1 ρ s hr fo)) fun ρ1 cy s1 g1 ry=>TR.stand (wpAny_bind (wpAny_holding ?_))
  split at he
  ·rename_i hb
   exact cmpop_sound hb g1.hr (rx.step hr g1.st) ry rfl hu (wpAny_bind (wpAny_release (wpAny_bind (wpAny_holding (wpAny_truthy_bool (hr'.1 pos y ℓ σ1 v σ' he ρ1 s1 cy g1.hr (fo.step hr g1.st) ry))))))
  ·rename_i hb
   refine okE he ?_
   exact cmpop_sound hb g1.hr (rx.step hr g1.st) ry rfl hu (wpAny_bind (wpAny_release (wpAny_bind (wpAny_holding (wpAny_truthy_bool (TR.pure g1.hr (.bool _)))))))
  ·exact nn he
 ·intro pos x ℓ σ v σ' bb he hbb ρ s cx hr fo rx
  skip
  refine bok_e (he) fun y σ1 h1 he=>?_
  show TR K A (do
   let rv ← holding [cx] (eval e env)
   standAt pos
   let c ← holding [cx,rv] (compareOp op cx rv)
   release [cx,rv] [c]
   if ← holding [c,rv] (truthy c) then testChain pos rv (op'::ops) (evalEach (e'::es) env) else pure false) ρ s σ' _
  refine TR.bind (TR.hold (h ℓ σ y σ1 h1 ρ s hr fo)) fun ρ1 cy s1 g1 ry=>TR.stand (wpAny_bind (wpAny_holding ?_))
  split at he
  ·rename_i hb
   exact cmpop_sound hb g1.hr (rx.step hr g1.st) ry rfl hu (wpAny_bind (wpAny_release (wpAny_bind (wpAny_holding (wpAny_truthy_bool (hr'.2 pos y ℓ σ1 v σ' bb he hbb ρ1 s1 cy g1.hr (fo.step hr g1.st) ry))))))
  ·rename_i hb
   refine byC fun hX=>?_;refine rA (fun hO0 hO1=>?_) (okJ he);obtain rfl:=hO0;obtain rfl:=hO1;refine hX ?_;clear hX
   obtain rfl:=Option.some.inj hbb
   exact cmpop_sound hb g1.hr (rx.step hr g1.st) ry rfl hu (wpAny_bind (wpAny_release (wpAny_bind (wpAny_holding (wpAny_truthy_bool (TR.pure g1.hr rfl))))))
  ·exact nn he
theorem pe_cmp {l : Expr} {ops : List CmpOp} {cs : List Expr} {pos : Pos} {a : Ex} {r : Ch} (hm : markedEach ops cs (evalEach cs env) = evalEach cs env) (hl : PE K A env c cl l a) (hc : PC K A env c cl ops cs r) :
  PE K A env c cl (.Compare l ops cs pos) (.cmp a r):=by
 intro ℓ σ v σ' he ρ s hr fo
 skip
 refine bok_e (he) fun x σ1 h1 he=>?_
 show TR K A (do compareChain pos (← eval l env) ops (markedEach ops cs (evalEach cs env))) ρ s σ' _
 rw [hm]
 exact TR.bind (hl ℓ σ x σ1 h1 ρ s hr fo) fun ρ1 cx s1 g1 rx=>hc.1 pos x ℓ σ1 v σ' he ρ1 s1 cx g1.hr (fo.step hr g1.st) rx
theorem pt_cmp {l : Expr} {ops : List CmpOp} {cs : List Expr} {pos : Pos} {a : Ex} {r : Ch} (hm : markedEach ops cs (evalEach cs env) = evalEach cs env) (hl : PE K A env c cl l a) (hc : PC K A env c cl ops cs r) :
  PT K A env c cl (.Compare l ops cs pos) (.cmp a r):=by
 intro ℓ σ v σ' b he hb ρ s hr fo
 skip
 refine bok_e (he) fun x σ1 h1 he=>?_
 show TR K A (do testChain pos (← eval l env) ops (markedEach ops cs (evalEach cs env))) ρ s σ' _
 rw [hm]
 exact TR.bind (hl ℓ σ x σ1 h1 ρ s hr fo) fun ρ1 cx s1 g1 rx=>hc.2 pos x ℓ σ1 v σ' b he hb ρ1 s1 cx g1.hr (fo.step hr g1.st) rx
theorem pes_nil:PEs K A env c cl [] .nil:=by
 intro pos ℓ σ vs σ' he ρ s hr fo
 refine okE he ?_
 exact wpAny_items_nil ⟨ρ,Good.refl hr,.nil⟩
theorem pes_cons {e:Expr}{es:List Expr}{a:Ex}{as:Es} (hs:starEach (e::es) env=(false,eval e env)::starEach es env) (h:PE K A env c cl e a) (h':PEs K A env c cl es as):PEs K A env c cl (e::es) (.cons a as):=by
 intro pos ℓ σ vs σ' he ρ s hr fo
 skip
 refine bok_e (he) fun v σ1 h1 he=>?_
 refine bok_e (he) fun vs' σ2 h2 he=>?_
 cases he
 refine wpAny_items_cons (wpAny_mono (h ℓ σ v σ1 h1 ρ s hr fo) (fun cv s1 hq=>?_) fun u_ v_ f=>f) hs
 revert hq;refine rEA fun ρ1 g1 rv=>?_
 refine wpAny_mono (h' pos ℓ σ1 vs' σ' h2 ρ1 s1 g1.hr (fo.step hr g1.st)) (fun cvs s2 hq=>?_) fun u_ v_ f=>f
 revert hq;refine rEA fun ρ2 g2 rvs=>?_
 exact ⟨ρ2,g1.trans g2,.cons (rv.step g1.hr g2.st) rvs⟩
set_option tactic.hygienic true in
theorem pe_tup {es:List Expr}{k:Nat}{pos:Pos}{as:Es} (h:PEs K A env c cl es as):PE K A env c cl (.Tuple es k pos) (.tup as):=by
 intro ℓ σ v σ' he ρ s hr fo
 skip
 refine bok_e (he) fun vs σ1 h1 he=>?_
 split at he
 ·rename_i hl
  cases he
  refine wpAny_Tuple (wpAny_mono (h pos ℓ σ vs σ' h1 ρ s hr fo) (fun cvs s1 hq=>?_) fun u_ v_ f=>f)
  revert hq;refine rEA fun ρ1 g1 rvs=>?_
  refine ⟨list_len rvs hl,?_⟩
  refine rA (fun g rr=>?_) (good_tup g1.hr rvs hl s1.toks)
  exact ⟨_,g1.trans g,rr⟩
 ·exact nn he
theorem pe_lst {es:List Expr}{pos:Pos}{as:Es} (h:PEs K A env c cl es as):PE K A env c cl (.List es pos) (.lst as):=by
 intro ℓ σ v σ' he ρ s hr fo
 skip
 refine bok_e (he) fun vs σ1 h1 he=>?_
 refine rAA (fun hl hO1 hO2=>?_) (mkList_inv (okH_inv he));refine eqS hO1 ?_;refine eqS hO2 ?_
 refine wpAny_List (wpAny_mono (h pos ℓ σ vs σ1 h1 ρ s hr fo) (fun cvs s1 hq=>?_) fun u_ v_ f=>f)
 revert hq;refine rEA fun ρ1 g1 rvs=>?_
 refine ⟨list_len rvs hl,?_⟩
 refine rA (fun g rr=>?_) (good_list (n:=0) g1.hr rvs hl s1.toks)
 exact ⟨_,g1.trans g,rr⟩
theorem pe_idx {v i:Expr}{pos:Pos}{a b:Ex} (h:PE K A env c cl v a) (h':PE K A env c cl i b):PE K A env c cl (.Subscript v i pos) (.idx a b):=by
 intro ℓ σ w σ' he ρ s hr fo
 skip
 refine bok_e (he) fun x σ1 h1 he=>?_
 refine bok_e (he) fun y σ2 h2 he=>?_
 refine byC fun hX=>?_;refine rA (fun hx hO1=>?_) (okX_inv he);obtain rfl:=hO1;refine hX ?_;clear hX
 refine Subscript_ (wpAny_mono (h ℓ σ x σ1 h1 ρ s hr fo) (fun cx s1 hq=>?_) fun u_ v_ f=>f)
 revert hq;refine rEA fun ρ1 g1 rx=>?_
 refine wpAny_mono (h' ℓ σ1 y σ' h2 ρ1 s1 g1.hr (fo.step hr g1.st)) (fun cy s2 hq=>?_) fun u_ v_ f=>f
 revert hq;refine rEA fun ρ2 g2 ry=>?_
 exact TR.after (g1.trans g2) (getIdx_sound hx g2.hr (rx.step g1.hr g2.st) ry)
theorem po_no:PO K A env c cl none .no:=by
 intro ℓ σ v σ' he ρ s hr fo
 refine okE he ?_
 exact TR.pure hr .none
theorem po_yes {e:Expr}{a:Ex} (h:PE K A env c cl e a):PO K A env c cl (some e) (.yes a):=fun ℓ σ v σ' he ρ s hr fo=>h ℓ σ v σ' he ρ s hr fo
theorem pe_slc {v : Expr} {lo hi st : Option Expr} {p pos : Pos} {a : Ex} {x y z : Oe} (h : PE K A env c cl v a) (hl : PO K A env c cl lo x) (hh : PO K A env c cl hi y) (hs : PO K A env c cl st z) :
  PE K A env c cl (.Subscript v (.Slice lo hi st p) pos) (.slc a x y z):=by
 intro ℓ σ w σ' he ρ s hr fo
 skip
 refine bok_e (he) fun o σ1 h1 he=>?_
 refine bok_e (he) fun l σ2 h2 he=>?_
 refine bok_e (he) fun u σ3 h3 he=>?_
 refine bok_e (he) fun t σ4 h4 he=>?_
 have he:=okH_inv he
 refine Subscript_ (wpAny_mono (h ℓ σ o σ1 h1 ρ s hr fo) (fun cx s1 hq=>?_) fun u_ v_ f=>f)
 revert hq;refine rEA fun ρ1 g1 rx=>?_
 have fo1:=fo.step hr g1.st
 refine wpAny_Slice (wpAny_mono (hl ℓ σ1 l σ2 h2 ρ1 s1 g1.hr fo1) (fun cl' s2 hq=>?_) fun u_ v_ f=>f)
 revert hq;refine rEA fun ρ2 g2 rl=>?_
 have fo2:=fo1.step g1.hr g2.st
 refine wpAny_mono (hh ℓ σ2 u σ3 h3 ρ2 s2 g2.hr fo2) (fun cu s3 hq=>?_) fun u_ v_ f=>f
 revert hq;refine rEA fun ρ3 g3 ru=>?_
 have fo3:=fo2.step g2.hr g3.st
 refine wpAny_mono (hs ℓ σ3 t σ4 h4 ρ3 s3 g3.hr fo3) (fun ct s4 hq=>?_) fun u_ v_ f=>f
 revert hq;refine rEA fun ρ4 g4 rt=>?_
 have g5 := Good.tmp g4.hr { cls := .type "slice", data := .fields #[cl', cu, ct] } s4.toks
 have r1:=(((rx.step g1.hr g2.st).step g2.hr g3.st).step g3.hr g4.st).step g4.hr g5.st
 have r2:=((rl.step g2.hr g3.st).step g3.hr g4.st).step g4.hr g5.st
 have r3:=(ru.step g3.hr g4.st).step g4.hr g5.st
 have r4:=rt.step g4.hr g5.st
 exact TR.after ((((g1.trans g2).trans g3).trans g4).trans g5) (slice_sound he g5.hr r1 r2 r3 r4 (Heap.IsSliceOf.new ..))
end
noncomputable def PI (K:Kx) (A:Around) (env:Env) (c:CEnv) (cl:Cl) (e:Expr) (it:It):Prop :=
 ∀ℓ σ src σ',evalIt cl it ℓ σ=some (.ok src,σ')→∀ρ s,HR K ρ σ s.heap→FO K A env c ℓ ρ s.heap→
  wpAny K.M A (eval e env) (fun x s1=>wpAny K.M A (pyIter x) (fun itv s2=>∃ρ' I k,itv=.ref I∧Good K ρ s ρ' σ' s2∧ItOK K ρ' I 0 s2.heap src k∧src.keep σ'∧s.heap.get? I=none) (fun u_ v_=>False) s1) (fun u_ v_=>False) s
noncomputable def PF (K:Kx) (A:Around) (env:Env) (c:CEnv) (cl:Cl) (es:List Expr) (a:Es):Prop :=
 ∀ℓ σ b σ',evalIfs cl a ℓ σ=some (.ok b,σ')→∀ρ s,HR K ρ σ s.heap→FO K A env c ℓ ρ s.heap→
  TR K A (forIn es true fun c r=>if r=true then do let ok ← isTrue c env (eval c env);pure (ForInStep.yield ok) else pure (ForInStep.yield r)) ρ s σ' fun u_ r v_=>r=b
section
variable {K:Kx}{A:Around}{env:Env}{c:CEnv}{cl:Cl}{T:Tabs}
theorem Good.back (g:Good K ρ s ρ' σ' s') {a:Addr} (h:s'.heap.get? a=none):s.heap.get? a=none:=by
 cases e:s.heap.get? a with
 | none=>rfl
 | some o=>
  by_cases ha:a∈ρ
  ·have:a∈ρ':=g.st.pre.subset ha
   refine rEA (fun ob e' u2_=>?_) (g.hr.at_ this)
   rw [h] at e';exact nn e'
  ·have:=g.st.fr a _ (ng_of e) ha
   rw [ng_none.mpr h] at this;exact nn this
theorem pi_ex {e:Expr}{a:Ex} (h:PE K A env c cl e a):PI K A env c cl e (.ex a):=by
 intro ℓ σ src σ' he ρ s hr fo
 skip
 refine bok_e (he) fun x σ1 h1 he=>?_
 refine wpAny_mono (h ℓ σ x σ1 h1 ρ s hr fo) (fun cx s1 hq=>?_) fun u_ v_ f=>f
 revert hq;refine rEA fun ρ1 g1 rx=>?_
 have e1:σ'=σ1:=by
  cases x <;> simp at he
  ·exact he.2.symm
  ·split at he
   ·refine okE he ?_;rfl
   ·exact nn he
  ·exact he.2.symm
 subst e1
 refine it_make (x:=x) (src:=src) ?_ g1.hr rx fun h' k g ok hk=>⟨ρ1,_,k,rfl,g1.trans g,ok,hk,g1.back (get?_size _)⟩
 cases x <;> exact he
theorem pf_nil:PF K A env c cl [] .nil:=by
 intro ℓ σ b σ' he ρ s hr fo
 refine okE he ?_
 exact wpAny_tests_nil ⟨ρ,Good.refl hr,rfl⟩
theorem pf_false (es : List Expr) (hr : HR K ρ σ s.heap) :
  TR K A (forIn es false fun c r=>if r=true then do let ok ← isTrue c env (eval c env);pure (ForInStep.yield ok) else pure (ForInStep.yield r)) ρ s σ fun u_ r v_=>r=false:=by
 induction es with
 | nil=>exact TR.pure hr rfl
 | cons e es ih=>rw [List.forIn_cons];simp only [Bool.false_eq_true,if_false,pure_bind];exact ih
set_option tactic.hygienic true in
theorem pf_cons {e:Expr}{es:List Expr}{a:Ex}{as:Es} (h:PT K A env c cl e a) (h':PF K A env c cl es as):PF K A env c cl (e::es) (.cons a as):=by
 intro ℓ σ b σ' he ρ s hr fo
 skip
 refine bok_e (he) fun v σ1 h1 he=>?_
 rw [List.forIn_cons]
 simp only [if_true,bind_assoc,pure_bind]
 split at he
 ·rename_i hv
  refine TR.bind (h ℓ σ v σ1 true h1 hv ρ s hr fo) fun ρ1 q s1 g1 e=>?_
  subst e
  exact h' ℓ σ1 b σ' he ρ1 s1 g1.hr (fo.step hr g1.st)
 ·rename_i hv
  cases he
  refine TR.bind (h ℓ σ v σ' false h1 hv ρ s hr fo) fun ρ1 q s1 g1 e=>?_
  subst e
  exact pf_false es g1.hr
 ·exact nn he
noncomputable def closOf (env:Env):List (Str×NameKind)→List (Str×Addr)→List (Str×Addr)
 | [],acc=>acc
 | (n,k)::r,acc=>closOf env r (if k == .free then (n,(env.cells.lookup n).getD 0)::acc else acc)
theorem closureFor_eq (env:Env) (sc:Scope) (h:∀n,(n,NameKind.free)∈sc.names→(env.cells.lookup n).isSome=true):closureFor sc env=pure (closOf env sc.names []):=by
 have key : ∀ (l : List (Str × NameKind)) (acc : List (Str × Addr)), (∀ n, (n, NameKind.free) ∈ l → (env.cells.lookup n).isSome = true) →
   (forIn l acc fun x cs=>if x.2 == NameKind.free then do let a ← cellOf env x.1;pure (ForInStep.yield ((x.1,a)::cs)) else pure (ForInStep.yield cs):Sem (List (Str×Addr)))=pure (closOf env l acc):=by
  intro l
  induction l with
  | nil=>intro acc _;rfl
  | cons p l ih=>
   intro acc hp
   refine byC fun hX=>?_;obtain ⟨n,k⟩:=p;refine hX ?_;clear hX
   rw [List.forIn_cons]
   simp only [closOf]
   by_cases hk:k=.free
   ·subst hk
    refine rE (fun a ha=>?_) (Option.isSome_iff_exists.mp (hp n List.mem_cons_self))
    have hc:cellOf env n=pure a:=by unfold cellOf;rw [ha]
    simp only [beq_self_eq_true,if_true,hc,pure_bind,ha,Option.getD_some]
    exact ih _ fun m hm=>hp m (List.mem_cons_of_mem _ hm)
   ·have hb:(k == NameKind.free)=false:=by simpa using hk
    simp only [hb,Bool.false_eq_true,if_false,pure_bind]
    exact ih _ fun m hm=>hp m (List.mem_cons_of_mem _ hm)
 have:=key sc.names [] h
 unfold closureFor
 simp only [bind_pure]
 rw [← this]
set_option tactic.hygienic true in
theorem closOf_mem {x:Str}{a:Addr}:∀{l:List (Str×NameKind)}{acc:List (Str×Addr)},(x,a)∈closOf env l acc→(x,a)∈acc∨((x,NameKind.free)∈l∧a=(env.cells.lookup x).getD 0)
 | [],acc,h=>.inl h
 | (n,k)::r,acc,h=>by
  rcases closOf_mem (l:=r) h with h | h
  ·split at h
   ·rename_i hk
    rcases List.mem_cons.mp h with e | h
    ·refine rA (fun hO0 hO1=>?_) (Prod.mk.inj e);refine eqS hO0 ?_;refine eqS hO1 ?_;right;exact ⟨by rw [← beq_iff_eq.mp hk];exact List.mem_cons_self,rfl⟩
    ·exact .inl h
   ·exact .inl h
  ·exact .inr ⟨List.mem_cons_of_mem _ h.1,h.2⟩
theorem closOf_lookup {x:Str}:∀{l:List (Str×NameKind)}{acc:List (Str×Addr)},((x,NameKind.free)∈l∨acc.lookup x=some ((env.cells.lookup x).getD 0))→(closOf env l acc).lookup x=some ((env.cells.lookup x).getD 0)
 | [],acc,h=>by
  rcases h with h | h
  ·cases h
  ·exact h
 | (n,k)::r,acc,h=>by
  simp only [closOf]
  apply closOf_lookup (l:=r)
  by_cases hr:(x,NameKind.free)∈r
  ·exact .inl hr
  ·right
   by_cases hk:k=.free
   ·subst hk
    simp only [beq_self_eq_true,if_true,List.lookup_cons]
    cases hx:x == n with
    | true=>simp only;rw [beq_iff_eq.mp hx]
    | false=>
     simp only
     rcases h with h | h
     ·rcases List.mem_cons.mp h with e | h
      ·cases e;simp at hx
      ·exact absurd h hr
     ·exact h
   ·have hb:(k == NameKind.free)=false:=by simpa using hk
    simp only [hb,Bool.false_eq_true,if_false]
    rcases h with h | h
    ·rcases List.mem_cons.mp h with e | h
     ·refine byC fun hX=>?_;refine rA (fun hO0 hO1=>?_) (Prod.mk.inj e);obtain rfl:=hO0;obtain rfl:=hO1;refine hX ?_;clear hX;exact absurd rfl hk
     ·exact absurd h hr
    ·exact h
theorem nodup_lookup {α:Type}:∀{l:List (Str×α)}{x:Str}{a:α},(l.map (·.1)).Nodup→(x,a)∈l→l.lookup x=some a
 | (n,b)::r,x,a,hn,h=>by
  rw [List.lookup_cons]
  rcases List.mem_cons.mp h with e | h'
  ·refine piE e ?_;simp
  ·have hne : x ≠ n := by
    intro e
    rw [List.map_cons,List.nodup_cons] at hn
    exact hn.1 (List.mem_map.mpr ⟨_,h',e⟩)
   have:(x == n)=false:=by simpa using hne
   rw [this]
   rw [List.map_cons,List.nodup_cons] at hn
   exact nodup_lookup hn.2 h'
structure CompOK (c:CEnv) (sc:Scope):Prop where
 kind:sc.kind=.function
 nd:(sc.names.map (·.1)).Nodup
 nocell:∀p∈sc.names,p.2≠.cell
 frees:∀n,(n,NameKind.free)∈sc.names→c.names.lookup n=some .cell
theorem compOK_of {sc:Scope} (h:compOK c sc=true):CompOK c sc:=by
 simp only [compOK,Bool.and_eq_true,decide_eq_true_eq,List.all_eq_true,beq_iff_eq] at h
 revert h;refine rA fun hO0 h3=>?_;revert hO0;refine rA fun hO0 h2=>?_;obtain ⟨⟨h1,_⟩,_⟩:=hO0
 refine ⟨h1,h2,fun p hp e=>?_,fun n hn=>?_⟩
 ·have:=(h3 p hp).1;rw [e] at this;simp at this
 ·have:=(h3 _ hn).2;simpa using this
set_option tactic.hygienic true in
theorem compNames_mem {sc:Scope} (ok:CompOK c sc) {x:Str}{k:NameKind} (h:(x,k)∈compNames c sc):(k=.cell∧(x,NameKind.free)∈sc.names)∨(k≠.cell∧(x,k)∈sc.names):=by
 unfold compNames at h
 refine rEA (fun hO0 h1 h2=>?_) (List.mem_map.mp h);obtain ⟨n,k'⟩:=hO0
 simp only at h2
 split at h2
 ·rename_i hc
  simp only [Bool.and_eq_true,beq_iff_eq] at hc
  refine piE h2 ?_
  exact .inl ⟨rfl,hc.1 ▸ h1⟩
 ·refine piE h2 ?_
  exact .inr ⟨ok.nocell _ h1,h1⟩
theorem compNames_keys (sc:Scope):(compNames c sc).map (·.1)=sc.names.map (·.1):=by
 unfold compNames
 rw [List.map_map]
 apply List.map_congr_left
 intro hR0 _
 refine byC fun hX=>?_;obtain ⟨n,k⟩:=hR0;refine hX ?_;clear hX
 simp only [Function.comp]
 split <;> rfl
theorem own_lookup {x:Str}{i:Nat}{n0:Nat}{l:List (Str×NameKind)} (h:(x,i)∈l.zipIdx.map fun p=>(p.1.1,n0 + p.2)):∃j k,i=n0 + j∧j < l.length∧l[j]? = some (x,k):=by
 refine rEA (fun hO0 h1 h2=>?_) (List.mem_map.mp h);obtain ⟨hO0,j⟩:=hO0;obtain ⟨n,k⟩:=hO0
 refine piE h2 ?_
 refine rA (fun h3 h4=>?_) (List.mem_zipIdx' h1)
 exact ⟨j,k,rfl,h3,by rw [List.getElem?_eq_getElem h3,← h4]⟩
theorem lookup_append {α:Type}{l l':List (Str×α)}{x:Str}:(l++l').lookup x=match l.lookup x with | some a=>some a | .none=>l'.lookup x:=by
 induction l with
 | nil=>rfl
 | cons p l ih=>
  refine byC fun hX=>?_;obtain ⟨n,a⟩:=p;refine hX ?_;clear hX
  rw [List.cons_append,List.lookup_cons,List.lookup_cons]
  cases x == n <;> simp [ih]
set_option tactic.hygienic true in
theorem compSlots_inv {sc : Scope} {x : Str} {i : Nat} (h : (compSlots c sc).lookup x = some i) :
  (∃j,i=c.next + j∧j < (sc.names.filter fun p=>p.2 == .local).length∧(sc.names.filter fun p=>p.2 == .local)[j]? = some (x,.local))∨((x,NameKind.free)∈sc.names∧c.slots.lookup x=some i):=by
 have hm:=mem_of_lookup h
 unfold compSlots at hm
 rcases List.mem_append.mp hm with hm | hm
 ·refine rEEAA (fun j k hO2 h1 h2=>?_) (own_lookup hm);refine eqS hO2 ?_
  left
  have hk:k=.local:=by
   have:=List.mem_filter.mp (List.mem_of_getElem? h2)
   simpa using this.2
  subst hk
  exact ⟨j,rfl,h1,h2⟩
 ·right
  refine rEA (fun hO0 h1 h2=>?_) (List.mem_filterMap.mp hm);obtain ⟨n,k⟩:=hO0
  simp only at h2
  split at h2
  ·rename_i hc
   simp only [Bool.and_eq_true,beq_iff_eq] at hc
   refine mapn_e (h2) fun j hj e=>?_
   refine piE e ?_
   exact ⟨hc.1 ▸ h1,hj⟩
  ·exact nn h2
set_option tactic.hygienic true in
theorem comp_FO {sc : Scope} {C : Addr} (fo : FO K A env c ℓ ρ h) (ok : CompOK c sc) (hC : h.Ns C fun u_ => none) (hCρ : C ∉ ρ) (hC0 : K.h0.get? C = none) (hCn : ∀ x a, (x, a) ∈ env.cells → a ≠ C) :
  FO K A (compEnvC sc (closOf env sc.names []) C env) (compC c sc) ℓ ρ h:=by
 have hnames:(relabel sc env).names=compNames c sc:=by
  unfold relabel compNames
  apply List.map_congr_left
  intro hR0 _
  refine byC fun hX=>?_;obtain ⟨n,k⟩:=hR0;refine hX ?_;clear hX
  simp only [fo.kind,show env.kindOf n=c.names.lookup n from by unfold Env.kindOf;rw [fo.names],beq_self_eq_true,Bool.and_true]
 have hmem:∀x a,(x,a)∈closOf env sc.names []→(x,NameKind.free)∈sc.names∧env.cells.lookup x=some a:=by
  intro x a hm
  rcases closOf_mem hm with h | ⟨h1,h2⟩
  ·cases h
  ·refine rEEA (fun a' u1_ h3 u3_=>?_) (fo.cell x (ok.frees x h1))
   rw [h3] at h2;simp at h2
   exact ⟨h1,by rw [h2];exact h3⟩
 refine ⟨ok.kind,hnames,fo.glob,fo.blts,⟨_,hC,fun x i v h1 h2 h3=>?_⟩,fun x hx=>?_,fun x y i h1 h2=>?_,fun x y a h1 h2=>?_,⟨hCρ,hC0⟩,fun i v hi=>?_,fun x i hx=>?_,fo.ff,fun x a hx=>?_⟩
 ·exfalso
  rcases compSlots_inv h2 with ⟨j,rfl,_,_⟩ | ⟨hf,_⟩
  ·exact fo.free _ v (by exact ln2 [] (.le .v0 (.a .v0 .v1)) (.d 11) rfl) h3
  ·have hc : (x, NameKind.cell) ∈ compNames c sc := by
    unfold compNames
    refine List.mem_map.mpr ⟨_,hf,?_⟩
    simp [ok.frees x hf]
   have:=nodup_lookup (by rw [compNames_keys];exact ok.nd) hc
   have h1':(compNames c sc).lookup x=some .local:=h1
   rw [this] at h1';cases h1'
 ·have hx':(compNames c sc).lookup x=some .cell:=hx
  rcases compNames_mem ok (mem_of_lookup hx') with ⟨_,hf⟩ | ⟨hne,_⟩
  ·refine rEEAA (fun a o h1 h2 h3=>?_) (fo.cell x (ok.frees x hf))
   refine ⟨a,o,?_,h2,fun i v g1 g2=>?_⟩
   ·have:=closOf_lookup (env:=env) (acc:=[]) (.inl hf)
    rw [h1] at this;exact this
   ·rcases compSlots_inv g1 with ⟨j,rfl,_,g3⟩ | ⟨_,g3⟩
    ·exact absurd g2 (fo.free _ v (by exact ln2 [] (.le .v0 (.a .v0 .v1)) (.d 11) rfl))
    ·exact h3 i v g3 g2
  ·exact absurd rfl hne
 ·rcases compSlots_inv h1 with ⟨j,rfl,b1,g1⟩ | ⟨f1,g1⟩ <;> rcases compSlots_inv h2 with ⟨j',e',b2,g2⟩ | ⟨f2,g2⟩
  ·have:j=j':=by exact ln3 [(.eq (.a .v2 .v0) (.a .v2 .v1))] (.eq .v0 .v1) (.s (.d 1101) (.d 111)) rfl e'
   subst this
   rw [g1] at g2;cases g2;rfl
  ·have:=fo.lt _ _ g2;lia
  ·have:=fo.lt _ _ g1;lia
  ·exact fo.inj x y i g1 g2
 ·exact fo.capart x y a (mem_of_lookup (hmem x a h1).2) (mem_of_lookup (hmem y a h2).2)
 ·have:c.next≤i:=by have hi':c.next + (sc.names.filter fun p=>p.2 == .local).length≤i:=hi;lia
  exact fo.free i v this
 ·show i < c.next + (sc.names.filter fun p=>p.2 == .local).length
  rcases compSlots_inv hx with ⟨j,rfl,b1,_⟩ | ⟨_,g1⟩
  ·exact ln3 [(.lt .v1 .v2)] (.lt (.a .v0 .v1) (.a .v0 .v2)) (.d 111) rfl b1
  ·have:=fo.lt _ _ g1;lia
 ·have hl:=(hmem x a hx).2
  refine rAAA (fun g1 g2 u2_ g4=>?_) (fo.cnew x a (mem_of_lookup hl))
  exact ⟨g1,g2,hCn x a (mem_of_lookup hl),g4⟩
end
section
variable {K:Kx}{A:Around}{env:Env}{c:CEnv}{cl:Cl}{T:Tabs}
theorem list_ne_tup {cvs ws:List Value}{m:Nat} (h:some (listObj cvs m)=some (tupObj ws)):False:=by
 have h1:=congrArg (fun o=>o.map Obj.cls) h
 exact absurd (Option.some.inj h1) (show ¬ Value.type "list" = Value.type "tuple" by decide)
theorem ex3 {I D C:Addr} (h1:∃o,h.get? I=some o) (h2:∃o,h.get? D=some o) (h3:∃o,h.get? C=some o):∀b∈[I,D,C],∃o,h.get? b=some o:=by
 intro b hb
 rcases List.mem_cons.mp hb with rfl | hb
 ·exact h1
 ·rcases List.mem_cons.mp hb with rfl | hb
  ·exact h2
  ·rw [List.mem_singleton.mp hb];exact h3
theorem FO.exC {C:Addr} (fo:FO K A env c ℓ ρ h) (hC:env.locals=C):∃o,h.get? C=some o:=by
 refine rEA (fun m' hn' u2_=>?_) fo.ns
 rw [hC] at hn';exact Ns.ex hn'
theorem FO.butF {I:Addr} (fo:FO K A env c ℓ ρ h) (hI:I≠env.locals) (hIc:∀x a,(x,a)∈env.cells→a≠I) (hnt:∀vs,h.get? I≠some (tupObj vs)) (hff:FF K A ρ h') (hk:∀b o,b≠I→h.get? b=some o→h'.get? b=some o):FO K A env c ℓ ρ h':=by
 refine ⟨fo.kind,fo.names,fo.glob,fo.blts,?_,fun x hx=>?_,fo.inj,fo.capart,fo.lnew,fo.free,fo.lt,hff,fun x a hx=>?_⟩
 ·refine rEA (fun m hn hm=>?_) fo.ns
  exact ⟨m,Ns.at hn fun o e=>hk _ _ (fun e'=>hI e'.symm) e,fun x i v h1 h2 h3=>let ⟨cv,g1,g2⟩:=hm x i v h1 h2 h3;⟨cv,g1,g2.but hnt hk⟩⟩
 ·refine rEEAA (fun a o g1 g2 g3=>?_) (fo.cell x hx)
  exact ⟨a,o,g1,IsCell.at g2 fun o e=>hk _ _ (hIc x a (mem_of_lookup g1)) e,fun i v h1 h2=>let ⟨cv,e1,e2⟩:=g3 i v h1 h2;⟨cv,e1,e2.but hnt hk⟩⟩
 ·refine rAAAEA (fun g1 g2 g3 o g4 g5=>?_) (fo.cnew x a hx)
  exact ⟨g1,g2,g3,o,hk _ _ (hIc x a hx) g4,g5⟩
theorem FO.but {I:Addr} (fo:FO K A env c ℓ ρ h) (hI:I≠env.locals) (hIc:∀x a,(x,a)∈env.cells→a≠I) (hnt:∀vs,h.get? I≠some (tupObj vs)) (hnd:∀o,h.get? I=some o→¬ dy o) (hk:∀b o,b≠I→h.get? b=some o→h'.get? b=some o):FO K A env c ℓ ρ h' :=
 fo.butF hI hIc hnt (fo.ff.but (fun b hb o e=>hk b o hb e) hnd) hk
theorem StepX.weaken {X Y:List Addr} (x:StepX X ρ s ρ' s') (h:∀a∈X,a∈Y):StepX Y ρ s ρ' s':=⟨x.pre,fun b o e h1 h2=>x.fr b o e h1 fun h3=>h2 (h b h3),x.fresh,x.gens,x.os⟩
theorem StepX.one {I:Addr}{t:Nat} (hk:∀b o,b≠I→s.heap.get? b=some o→h'.get? b=some o):StepX [I] ρ s ρ { s with heap:=h',toks:=t } :=
 ⟨List.prefix_refl _,fun b o e u_ hb=>ng_keep1 (fun o e=>hk b o (fun e'=>hb (by rw [e'];exact List.mem_cons_self)) e) e,fun u_ h=>.inl h,rfl,rfl⟩
structure CInv (K : Kx) (A : Around) (cenv : Env) (c' : CEnv) (src : Src) (k : ItK) (body : L → H → X (Option V)) (tg : Nat) (vs : List V) (σ2 : H) (ρ2 : List Addr) (s4 : Shared) (I D C : Addr) (i : Nat) (s : Shared) (ρ' : List Addr) (σ' : H) (acc : List V) (ℓ' : L)
  (cacc:List Value) (m:Nat):Prop where
 run:compL body tg src.keep (src.vs.drop i) acc ℓ' σ'=some (.ok vs,σ2)
 hr:HR K ρ' σ' s.heap
 st:StepX [I,D,C] ρ2 s4 ρ' s
 it:ItOK K ρ' I i s.heap src k
 keep:src.keep σ'
 d:s.heap.get? D=some (listObj cacc m)
 rv:RVs K ρ' s.heap acc cacc
 len:acc.length≤lenMax
 off:D ∉ ρ'
 fo:FO K A cenv c' ℓ' ρ' s.heap
 le:i≤src.vs.length
theorem compL_nil {body:L→H→X (Option V)}{tg:Nat}{keep:H→Prop}{acc:List V}{vs:List V}{σ2:H} (h:compL body tg keep [] acc ℓ σ=some (.ok vs,σ2)):vs=acc∧σ2=σ:=by
 refine okE h ?_;exact ⟨rfl,rfl⟩
theorem compL_cons {body : L → H → X (Option V)} {tg : Nat} {keep : H → Prop} {v : V} {r acc : List V} {vs : List V} {σ2 : H} (h : compL body tg keep (v :: r) acc ℓ σ = some (.ok vs, σ2)) :
  ∃ℓ1 y σ1,setL ℓ tg v=some ℓ1∧body ℓ1 σ=some (.ok y,σ1)∧keep σ1∧acc.length < lenMax∧compL body tg keep r (acc++y.toList) ℓ1 σ1=some (.ok vs,σ2):=by
 refine bind_e ((show (setL ℓ tg v).bind _=_ from h)) fun ℓ1 h1 h=>?_
 refine bok_e (h) fun y σ1 h2 h=>?_
 refine ite_e (h) fun h3 h4=>?_
 exact ⟨ℓ1,y,σ1,h1,h2,h3.1,h3.2,h4⟩
set_option tactic.hygienic true in
theorem comp_loop {elt iter : Expr} {x : Str} {px pos : Pos} {ifs : List Expr} {sc : Scope} {cenv : Env} {c' : CEnv} {a : Ex} {fs : Es} {tg : Nat} {src : Src} {k : ItK} {vs : List V} {σ2 : H} {ρ2 : List Addr} {s4 : Shared} {I D C : Addr}
  (hh:HH K A src) (hx:cVar c' x=some tg) (hxl:c'.names.lookup x=some .local) (hcC:cenv.locals=C) (hID:I≠D) (hIC:I≠C) (hDC:D≠C) (hcells:∀y b,(y,b)∈cenv.cells→b≠I∧b≠D)
  (hD0:K.h0.get? D=none) (hs4:∀b∈[I,D,C],∃o,s4.heap.get? b=some o)
  (he:PE K A cenv c' cl elt a) (hf:PF K A cenv c' cl ifs fs) {RR:Shared→Prop}
  (hend:∀s ρ' cacc m,HR K ρ' σ2 s.heap→StepX [I,D,C] ρ2 s4 ρ' s→s.heap.get? D=some (listObj cacc m)→RVs K ρ' s.heap vs cacc→vs.length≤lenMax→D ∉ ρ'→(∃m',s.heap.Ns C m')→RR s)
  {E':Value→Shared→Prop} :
  ∀(i:Nat) (s:Shared) (ρ':List Addr) (σ':H) (acc:List V) (ℓ':L) (cacc:List Value) (m:Nat),
   CInv K A cenv c' src k (fun ℓ' σ'=>bok (evalIfs cl fs ℓ' σ') fun b σ2=>if b then bok (evalE cl a ℓ' σ2) fun v σ3=>some (.ok (some v),σ3) else some (.ok .none,σ2)) tg vs σ2 ρ2 s4 I D C i s ρ' σ' acc ℓ' cacc m→
   codeAny K.M A (.compLoop (.ListComp elt [⟨.Name x px,iter,ifs,0⟩] sc pos) 0 (.ref I) (.ref D) cenv) (fun r s'=>match r with | .ok f=>f=.next∧RR s' | .error e=>E' e s') s:=by
 intro i s ρ' σ' acc ℓ' cacc m inv
 refine codeAny_compLoop_tests (fun n s=>∃i ρ' σ' acc ℓ' cacc m,n=src.vs.length - i∧CInv K A cenv c' src k _ tg vs σ2 ρ2 s4 I D C i s ρ' σ' acc ℓ' cacc m) (fun n s hI=>?_) _ ⟨i,ρ',σ',acc,ℓ',cacc,m,rfl,inv⟩
 clear inv i ρ' σ' acc ℓ' cacc m
 revert hI;refine rEEEEEEEA fun i ρ' σ' acc ℓ' cacc m hn inv=>?_
 have hDnt:∀ws,s.heap.get? D≠some (tupObj ws):=by intro ws e;rw [inv.d] at e;exact list_ne_tup e
 rcases Nat.lt_or_ge i src.vs.length with hi | hi
 ·-- one more
  have hdrop:src.vs.drop i=src.vs[i]::src.vs.drop (i + 1):=List.drop_eq_getElem_cons hi
  have hrun:=inv.run
  rw [hdrop] at hrun
  refine rEEEAAAA (fun ℓ1 y σb hset hbody hkb hlen hrun=>?_) (compL_cons hrun)
  refine it_next hh inv.it inv.hr inv.keep (v:=src.vs[i]) (List.getElem?_eq_getElem hi) fun cv h1 tk1 hk1 hr1 rv1 it1=>?_
  have hInt:=inv.it.not_tup
  have foA:FO K A cenv c' ℓ' ρ' h1:=inv.fo.but (by rw [hcC];exact hIC) (fun y b hy=>(hcells y b hy).1) hInt (fun o e=>inv.it.st.nf e) hk1
  have dA:h1.get? D=some (listObj cacc m):=hk1 _ _ (fun e=>hID e.symm) inv.d
  have rvA:RVs K ρ' h1 acc cacc:=inv.rv.but hInt hk1
  have hex:∀b∈[I,D,C],∃o,s.heap.get? b=some o:=ex3 (ItOK.ex0 inv.it) ⟨_,inv.d⟩ (inv.fo.exC hcC)
  have stA:StepX [I,D,C] ρ2 s4 ρ' { s with heap:=h1,toks:=tk1 }:=inv.st.trans ((StepX.one hk1).weaken (by simp)) hex
  refine wpAny_assign_Name (store_sound (s:={ s with heap:=h1,toks:=tk1 }) foA hr1 hx hset rv1 fun sB b hb hrB stB foB=>?_)
  have hbC:b=C:=by
   rcases hb with h | ⟨h,_⟩
   ·rw [h,hcC]
   ·rw [hxl] at h;cases h
  subst hbC
  refine rEA (fun mC hnC u2_=>?_) foA.ns
  rw [hcC] at hnC
  have hCnt:=Ns.not_tup hnC
  have hkB:∀z o,z≠b→h1.get? z=some o→z ∉ ρ'→¬ dy o→sB.heap.get? z=some o:=fun z o hz e hzr hc=>stB.ex (s:={ s with heap:=h1,toks:=tk1 }) e hzr (by simpa using hz) hc
  have tupB:∀z ws,h1.get? z=some (tupObj ws)→sB.heap.get? z=some (tupObj ws):=fun z ws e=>hkB z _ (by rintro rfl;exact hCnt _ e) e (fun hz=>by
   refine rEA (fun ob e' hc=>?_) (hr1.at_ hz);rw [e] at e';obtain rfl:=Option.some.inj e';exact hc _ rfl) nfT
  have dB:sB.heap.get? D=some (listObj cacc m):=hkB D _ hDC dA inv.off nfL
  have rvB:RVs K ρ' sB.heap acc cacc:=rvA.mono (List.prefix_refl _) tupB
  have itB:ItOK K ρ' I (i + 1) sB.heap src k:=it1.move (List.prefix_refl _) (fun o e=>hkB I o hIC e it1.off (it1.st.nf e)) tupB it1.off
  have hexA:∀z∈[I,D,b],∃o,h1.get? z=some o:=ex3 (ItOK.ex0 it1) ⟨_,dA⟩ (Ns.ex hnC)
  have stB':StepX [I,D,b] ρ2 s4 ρ' sB:=stA.trans (stB.weaken (by simp)) hexA
  have hexB:∀z∈[I,D,b],∃o,sB.heap.get? z=some o:=ex3 (ItOK.ex0 itB) ⟨_,dB⟩ (foB.exC hcC)
  refine bok_e (hbody) fun bb σt ht hbody=>?_
  refine wpAny_mono (hf ℓ1 σ' bb σt ht ρ' sB hrB foB) (fun q sC hq=>?_) fun u_ v_ f=>f.elim
  refine byC fun hX=>?_;revert hq;refine rEA fun ρ1 gC hO2=>?_;obtain rfl:=hO2;refine hX ?_;clear hX
  have foC:=foB.step hrB gC.st
  have dC:sC.heap.get? D=some (listObj cacc m):=gC.st.ex dB inv.off nfL
  have offC:D ∉ ρ1:=fun hm=>by
   rcases gC.st.fresh D hm with h | h
   ·exact inv.off h
   ·rw [dB] at h;exact ns h
  have stC:StepX [I,D,b] ρ2 s4 ρ1 sC:=stB'.trans (gC.st.toX _) hexB
  cases q with
  | false=>
   simp only [Bool.false_eq_true,if_false] at hbody ⊢
   refine byC fun hX=>?_;refine rA (fun hO0 hO1=>?_) (okJ hbody);obtain rfl:=hO0;obtain rfl:=hO1;refine hX ?_;clear hX
   rw [show acc++(none:Option V).toList=acc from List.append_nil _] at hrun
   refine ⟨src.vs.length - (i + 1),by exact ln5 [(.eq .v1 .v2),(.lt .v3 .v4),(.sb .v2 .v4 .v3),(.sb .v0 .v4 (.a .v3 .k1))] (.lt .v0 .v1) (.s (.s (.d 1101000101) (.d 1101100101)) (.s (.d 100011) (.d 100011))) rfl hn hi (sub_ax _ _) (sub_ax _ _),i + 1,ρ1,_,acc,ℓ1,cacc,m,rfl,⟨hrun,gC.hr,stC,itB.step hrB gC.st,hkb,dC,rvB.step hrB gC.st,inv.len,offC,foC,hi⟩⟩
  | true=>
   simp only [if_true] at hbody ⊢
   refine bok_e (hbody) fun w σe hw hbody=>?_
   refine byC fun hX=>?_;refine rA (fun hO0 hO1=>?_) (okJ hbody);obtain rfl:=hO0;obtain rfl:=hO1;refine hX ?_;clear hX
   refine wpAny_mono (he ℓ1 σt w _ hw ρ1 sC gC.hr foC) (fun cw sD hq=>?_) fun u_ v_ f=>f.elim
   revert hq;refine rEA fun ρd gD rw'=>?_
   have foD:=foC.step gC.hr gD.st
   have dD:sD.heap.get? D=some (listObj cacc m):=gD.st.ex dC offC nfL
   have offD:D ∉ ρd:=fun hm=>by
    rcases gD.st.fresh D hm with h | h
    ·exact offC h
    ·rw [dC] at h;exact ns h
   have hexC:∀z∈[I,D,b],∃o,sC.heap.get? z=some o:=ex3 (ItOK.ex0 (itB.step hrB gC.st)) ⟨_,dC⟩ (foC.exC hcC)
   have stD:StepX [I,D,b] ρ2 s4 ρd sD:=stC.trans (gD.st.toX _) hexC
   have itD:=(itB.step hrB gC.st).step gC.hr gD.st
   have rvD:=(rvB.step hrB gC.st).step gC.hr gD.st
   refine wpAny_list_append_plain (items:=cacc.toArray) ⟨m,dD⟩ (fun h' hp hs'=>?_) (by have:=list_len inv.rv inv.len;simpa using this)
   revert hp;refine rE fun m2 hp=>?_
   have hkE:∀z o,z≠D→sD.heap.get? z=some o→h'.get? z=some o:=fun z o hz e=>(hs'.2 z hz).trans e
   have hDnt':∀ws,sD.heap.get? D≠some (tupObj ws):=by intro ws e;rw [dD] at e;exact list_ne_tup e
   have hexD:∀z∈[I,D,b],∃o,sD.heap.get? z=some o:=ex3 (ItOK.ex0 itD) ⟨_,dD⟩ (foD.exC hcC)
   refine ⟨src.vs.length - (i + 1),by exact ln5 [(.eq .v1 .v2),(.lt .v3 .v4),(.sb .v2 .v4 .v3),(.sb .v0 .v4 (.a .v3 .k1))] (.lt .v0 .v1) (.s (.s (.d 1101000101) (.d 1101100101)) (.s (.d 100011) (.d 100011))) rfl hn hi (sub_ax _ _) (sub_ax _ _),i + 1,ρd,_,acc++[w],ℓ1,cacc++[cw],m2,rfl,⟨hrun,gD.hr.but offD hD0 hDnt' hkE,stD.trans ((StepX.one hkE).weaken (by simp)) hexD,itD.but hDnt' hID hkE,hkb,?_,?_,?_,offD,?_,hi⟩⟩
   ·rw [hp];simp
   ·exact (rvD.but hDnt' hkE).append (.cons (rw'.but hDnt' hkE) .nil)
   ·simp;exact ln2 [(.lt .v0 .v1)] (.le (.a .v0 .k1) .v1) (.d 111) rfl hlen
   ·exact foD.but (by rw [hcC];exact hDC) (fun y z hy=>(hcells y z hy).2) hDnt' (fun o e=>by rw [dD] at e;refine siE e ?_;exact nfL) hkE
 ·-- the end
  have hii:i=src.vs.length:=by have:=inv.le;lia
  subst hii
  have hrun:=inv.run
  rw [List.drop_length] at hrun
  refine byC fun hX=>?_;refine rA (fun hO0 hO1=>?_) (compL_nil hrun);obtain rfl:=hO0;obtain rfl:=hO1;refine hX ?_;clear hX
  refine it_done hh inv.it inv.hr inv.keep rfl fun h1 tk1 hk1 hr1=>?_
  have hInt:=inv.it.not_tup
  have hex:∀b∈[I,D,C],∃o,s.heap.get? b=some o:=ex3 (ItOK.ex0 inv.it) ⟨_,inv.d⟩ (inv.fo.exC hcC)
  refine ⟨rfl,hend { s with heap:=h1,toks:=tk1 } ρ' cacc m hr1 (inv.st.trans ((StepX.one hk1).weaken (by simp)) hex) (hk1 _ _ (fun e=>hID e.symm) inv.d) (inv.rv.but hInt hk1) inv.len inv.off ?_⟩
  refine rEA (fun m' hn' u2_=>?_) ((inv.fo.but (by rw [hcC];exact hIC) (fun y b hy=>(hcells y b hy).1) hInt (fun o e=>inv.it.st.nf e) hk1).ns)
  rw [hcC] at hn'
  exact ⟨m',hn'⟩
end
section
variable {K:Kx}{A:Around}{env:Env}{c:CEnv}{cl:Cl}{T:Tabs}
structure CEnd (K:Kx) (ρ:List Addr) (s:Shared) (σ2:H) (vs:List V) (D C:Addr) (ρ':List Addr) (s':Shared) (cacc:List Value) (m:Nat):Prop where
 hr:HR K ρ' σ2 s'.heap
 st:Step ρ s ρ' s'
 d:s'.heap.get? D=some (listObj cacc m)
 rv:RVs K ρ' s'.heap vs cacc
 len:vs.length≤lenMax
 off:D ∉ ρ'
 offC:C ∉ ρ'
 newD:s.heap.get? D=none
 newC:s.heap.get? C=none
 ne:D≠C
 d0:K.h0.get? D=none
 c0:K.h0.get? C=none
 ns:∃m',s'.heap.Ns C m'
set_option tactic.hygienic true in
theorem comp_main {elt iter : Expr} {x : Str} {px pos pos' : Pos} {ifs : List Expr} {sc : Scope} {a : Ex} {it : It} {fs : Es} {tg : Nat} (hh : ∀ ℓ σ src σ', evalIt cl it ℓ σ = some (.ok src, σ') → HH K A src) (ok : CompOK c sc) (hs : ∀ v, foldedSetIterable iter env v = pure v)
  (hx:cVar (compC c sc) x=some tg) (hxl:(compC c sc).names.lookup x=some .local) (hI:PI K A env c cl iter it) (he:∀cenv,PE K A cenv (compC c sc) cl elt a) (hf:∀cenv,PF K A cenv (compC c sc) cl ifs fs)
  {ℓ:L}{σ σ1 σ2:H}{src:Src}{vs:List V} (h1:evalIt cl it ℓ σ=some (.ok src,σ1))
  (h2:compL (fun ℓ' σ'=>bok (evalIfs cl fs ℓ' σ') fun b σ2=>if b then bok (evalE cl a ℓ' σ2) fun v σ3=>some (.ok (some v),σ3) else some (.ok .none,σ2)) tg src.keep src.vs [] ℓ σ1=some (.ok vs,σ2))
  {ρ:List Addr}{s:Shared} (hr:HR K ρ σ s.heap) (fo:FO K A env c ℓ ρ s.heap) {use:Option (Value→Sem Unit)}{Q:Value→Shared→Prop}{E:Value→Shared→Prop}
  (hend:∀s' D C ρ' cacc m,CEnd K ρ s σ2 vs D C ρ' s' cacc m→compPost K.M A E use Q (.ref D) C (.ok .next) s') :
  wpAny K.M A (comprehension (.ListComp elt [⟨.Name x px,iter,ifs,0⟩] sc pos) sc env pos' (newList []) false (eval iter env) use) Q E s:=by
 have hh:=hh ℓ σ src σ1 h1
 have hclos:closureFor sc env=pure (closOf env sc.names []):=closureFor_eq env sc fun n hn=>by
  refine rEEA (fun b u1_ e u3_=>?_) (fo.cell n (ok.frees n hn));rw [e];rfl
 refine wpAny_comprehension_free (g:=⟨.Name x px,iter,ifs,0⟩) (gs:=[]) rfl hs hclos ok.kind (fun y hy hl=>nodup_lookup ok.nd (by rw [← hl];exact hy)) ?_
 refine wpAny_mono (hI ℓ σ src σ1 h1 ρ s hr fo) (fun xv s1 hq=>wpAny_mono hq (fun itv s2 hq=>?_) fun u_ v_ f=>f.elim) fun u_ v_ f=>f.elim
 revert hq;refine rEEEAAAA fun ρ2 I k hO3 g2 itok hkeep hInone=>?_;refine eqS hO3 ?_
 refine rEA (fun oI eI u2_=>?_) itok.st.obj
 -- the list that is filled
 refine wpAny_newList ?_
 have fr2:=fresh_off g2.hr
 refine wpAny_newFunctionEnv ok.nocell (by intro y hy;cases hy) (fun h4 hns4 hsb4=>?_) ok.kind
 have hpD' : ({ s2 with heap := s2.heap.push { cls := .type "list", data := .seq ([] : List Value).toArray } } : Shared).heap.objs.size = s2.heap.objs.size + 1 := Heap.size_push ..
 rw [hpD'] at hns4 hsb4 ⊢
 obtain ⟨D,hD⟩ : ∃D:Nat,s2.heap.objs.size=D:=⟨_,rfl⟩
 obtain ⟨C,hC⟩ : ∃C:Nat,s2.heap.objs.size + 1=C:=⟨_,rfl⟩
 rw [hC] at hns4 hsb4 ⊢
 rw [hD] at fr2 ⊢
 have hDC:D≠C:=by exact ln3 [(.eq .v2 .v0),(.eq (.a .v2 .k1) .v1)] (.no (.eq .v0 .v1)) (.d 101011) rfl hD hC
 have hlt:∀{b:Addr}{o:Obj},s2.heap.get? b=some o→@LT.lt Nat _ b D∧@LT.lt Nat _ b C:=fun {b o} e=>by
  have h9 : @LT.lt Nat _ b s2.heap.objs.size:=Heap.lt_size e
  lia
 have hID:I≠D:=Nat.ne_of_lt (hlt eI).1
 have hIC:I≠C:=Nat.ne_of_lt (hlt eI).2
 have old:∀b o,s2.heap.get? b=some o→h4.get? b=some o:=by
  intro b o e
  exact (hsb4.2 b (Nat.ne_of_lt (hlt e).2)).trans (Heap.get?_push_of_some _ (Heap.get?_push_of_some _ e))
 have dD:h4.get? D=some (listObj [] 0):=by
  refine (hsb4.2 D hDC).trans (Heap.get?_push_of_some _ ?_)
  have:=Heap.get?_push_size s2.heap (o:=listObj [] 0) rfl
  rw [hD] at this;exact this
 have hnoneD:s2.heap.get? D=none:=by rw [← hD];exact get?_size _
 have hnoneC:s2.heap.get? C=none:=by
  cases e:s2.heap.get? C with
  | none=>rfl
  | some o=>exact absurd (hlt e).2 (Nat.lt_irrefl _)
 have hC0:K.h0.get? C=none:=by
  cases e:K.h0.get? C with
  | none=>rfl
  | some o=>rw [g2.hr.keep _ _ e] at hnoneC;exact ns hnoneC
 have hCρ:C ∉ ρ2:=fun hm=>by refine rEA (fun ob e u2_=>?_) (g2.hr.at_ hm);rw [hnoneC] at e;exact nn e
 have g4:Good K ρ2 s2 ρ2 σ1 { s2 with heap:=h4,toks:=s2.toks + ([]:List (Str×Value)).length }:=Good.grow g2.hr old _
 have fo2:=fo.step hr g2.st
 have fo4:=fo2.step g2.hr g4.st
 have hcn:∀y b,(y,b)∈env.cells→b≠I∧b≠D∧b≠C:=by
  intro y b hy
  refine rAAAEA (fun u0_ u1_ u2_ o e u5_=>?_) (fo.cnew y b hy)
  refine rEA (fun o2 hb2 u2_=>?_) (ng_data (g2.st.fr b _ (ng_of e) (fo.cnew y b hy).1))
  refine ⟨?_,?_,?_⟩
  ·rintro rfl;rw [hInone] at e;exact nn e
  ·rintro rfl;rw [hnoneD] at hb2;exact nn hb2
  ·rintro rfl;rw [hnoneC] at hb2;exact nn hb2
 have hnsC:h4.Ns C fun u_=>none:=hns4
 have foC:FO K A (compEnvC sc (closOf env sc.names []) C env) (compC c sc) ℓ ρ2 h4:=comp_FO fo4 ok hnsC hCρ hC0 fun y b hy=>(hcn y b hy).2.2
 have hcc:∀y b,(y,b)∈closOf env sc.names []→b≠I∧b≠D:=by
  intro y b hy
  rcases closOf_mem hy with h | ⟨hf',hb⟩
  ·cases h
  ·refine rEEA (fun b' u1_ e u3_=>?_) (fo.cell y (ok.frees y hf'))
   rw [e] at hb;simp at hb;subst hb
   have:=hcn y b (mem_of_lookup e)
   exact ⟨this.1,this.2.1⟩
 have loop : codeAny K.M A (.compLoop (.ListComp elt [⟨.Name x px, iter, ifs, 0⟩] sc pos) 0 (.ref I) (.ref D) (compEnvC sc (closOf env sc.names []) C env)) (compPost K.M A E use Q (.ref D) C)
   { s2 with heap:=h4,toks:=s2.toks + ([]:List (Str×Value)).length }:=by
  refine codeAny_mono (comp_loop (E':=fun e s'=>compPost K.M A E use Q (.ref D) C (.error e) s') (RR:=fun s'=>compPost K.M A E use Q (.ref D) C (.ok .next) s') (ρ2:=ρ2) (s4:={ s2 with heap:=h4,toks:=s2.toks + ([]:List (Str×Value)).length }) (C:=C) (σ2:=σ2) (vs:=vs)
   hh hx hxl rfl hID hIC hDC hcc fr2.2 ?_ (he _) (hf _) (fun s' ρ' cacc m e1 e2 e3 e4 e5 e6 e7=>?_) 0 _ ρ2 σ1 [] ℓ [] 0
   ⟨h2,g4.hr,StepX.refl _ _ _,itok.step g2.hr g4.st,hkeep,dD,.nil,Nat.zero_le _,fr2.1,foC,Nat.zero_le _⟩) fun r s' hq=>?_
  ·intro b hb
   simp only [List.mem_cons,List.not_mem_nil,or_false] at hb
   rcases hb with rfl | rfl | rfl
   ·exact ⟨oI,old _ _ eI⟩
   ·exact ⟨_,dD⟩
   ·exact Ns.ex hnsC
  ·refine hend s' D C ρ' cacc m ⟨e1,?_,e3,e4,e5,e6,fun hm=>?_,g2.back hnoneD,g2.back hnoneC,hDC,fr2.2,hC0,e7⟩
   ·have hid : ∀ z ∈ [I, D, C], s.heap.get? z = none := by
     intro z hz
     simp only [List.mem_cons,List.not_mem_nil,or_false] at hz
     rcases hz with rfl | rfl | rfl
     ·exact hInone
     ·exact g2.back hnoneD
     ·exact g2.back hnoneC
    have t1:=g2.st.trans g4.st
    refine ⟨t1.pre.trans e2.pre,fun z o e hz=>?_,fun z hz=>?_,e2.gens.trans t1.gens,e2.os.trans t1.os⟩
    ·have hz4:=t1.fr z o e hz
     refine e2.fr z o hz4 (fun h=>?_) fun h=>?_
     ·rcases t1.fresh z h with h | h
      ·exact hz h
      ·rw [ng_none.mpr h] at e;exact nn e
     ·rw [ng_none.mpr (hid z h)] at e;exact nn e
    ·rcases e2.fresh z hz with h | h
     ·exact t1.fresh z h
     ·by_cases hr':z∈ρ
      ·exact .inl hr'
      ·right
       cases hg:s.heap.get? z with
       | none=>rfl
       | some o=>have:=t1.fr z _ (ng_of hg) hr';rw [ng_none.mpr h] at this;exact nn this
   ·rcases e2.fresh C hm with h | h
    ·exact hCρ h
    ·refine rE (fun o e=>?_) (Ns.ex hnsC);rw [e] at h;exact ns h
  ·cases r with
   | ok f=>refine byC fun hX=>?_;revert hq;refine rA fun hO0 hq=>?_;obtain rfl:=hO0;refine hX ?_;clear hX;exact hq
   | error e=>exact hq
 show codeAny K.M A (.compStart (.ListComp elt [⟨.Name x px,iter,ifs,0⟩] sc pos) 0 (.ref I) (.ref D) (compEnvC sc (closOf env sc.names []) C env)) (compPost K.M A E use Q (.ref D) C) { s2 with heap:=h4,toks:=s2.toks + ([]:List (Str×Value)).length }
 exact codeAny_compStart_list loop (it_self hh (itok.step g2.hr g4.st) loop)
theorem CEnd.done {σ2 : H} {vs : List V} {D C : Addr} {cacc : List Value} {m : Nat} (x : CEnd K ρ s σ2 vs D C ρ' s' cacc m) (hs : Heap.SameBut C s'.heap h') :
  ∃ρ'',Good K ρ s ρ'' (σ2++[.list vs]) { s' with heap:=h' }∧RV K ρ'' h' (.obj σ2.length) (.ref D)∧C ∉ ρ'':=by
 refine rE (fun m' hn=>?_) x.ns
 have hbut:∀b o,b≠C→s'.heap.get? b=some o→h'.get? b=some o:=fun b o hb e=>(hs.2 b hb).trans e
 have hr1:HR K ρ' σ2 h':=x.hr.but x.offC x.c0 (Ns.not_tup hn) hbut
 have hd:h'.get? D=some (listObj cacc m):=hbut _ _ x.ne x.d
 refine ⟨ρ'++[D],⟨⟨hr1.keep,by simp [hr1.len],?_,fun b hb=>?_,fun n o b g1 g2=>?_⟩,⟨x.st.pre.trans (List.prefix_append _ _),fun b o e hb=>?_,fun b hb=>?_,x.st.gens,x.st.os⟩⟩,.obj ?_,fun hm=>?_⟩
 ·rw [List.nodup_append];exact ⟨hr1.nd,by simp,fun b hb z hz e=>by simp at hz;exact x.off (hz ▸ e ▸ hb)⟩
 ·rcases List.mem_append.mp hb with h | h
  ·exact hr1.new b h
  ·rw [List.mem_singleton.mp h];exact x.d0
 ·by_cases hlt:n < σ2.length
  ·rw [List.getElem?_append_left hlt] at g1
   rw [List.getElem?_append_left (by rw [hr1.len];exact hlt)] at g2
   exact (hr1.obj n o b g1 g2).mono (List.prefix_append _ _) fun u_ v_ e=>e
  ·have hn':n=σ2.length:=by have:=(List.getElem?_eq_some_iff.mp g1).1;simp at this;lia
   subst hn'
   rw [List.getElem?_append_right (Nat.le_refl _)] at g1
   rw [List.getElem?_append_right (by rw [hr1.len];exact Nat.le_refl _)] at g2
   simp [hr1.len] at g1 g2
   rw [← g1,← g2]
   exact ⟨cacc,m,hd,(x.rv.but (Ns.not_tup hn) hbut).mono (List.prefix_append _ _) (fun u_ v_ e=>e),x.len⟩
 ·have:=x.st.fr b o e hb
  exact ng_keep1 (fun o h=>hbut b o (by rintro rfl;rw [ng_none.mpr x.newC] at e;exact nn e) h) this
 ·rcases List.mem_append.mp hb with h | h
  ·exact x.st.fresh b h
  ·rw [List.mem_singleton.mp h];exact .inr x.newD
 ·rw [List.getElem?_append_right (by rw [hr1.len];exact Nat.le_refl _),hr1.len];simp
 ·rcases List.mem_append.mp hm with h | h
  ·exact x.offC h
  ·exact x.ne (List.mem_singleton.mp h).symm
theorem pe_comp {elt iter : Expr} {x : Str} {px pos : Pos} {ifs : List Expr} {sc : Scope} {a : Ex} {it : It} {fs : Es} {tg : Nat} (hh : ∀ ℓ σ src σ', evalIt cl it ℓ σ = some (.ok src, σ') → HH K A src) (ok : CompOK c sc) (hs : ∀ v, foldedSetIterable iter env v = pure v)
  (hx:cVar (compC c sc) x=some tg) (hxl:(compC c sc).names.lookup x=some .local) (hI:PI K A env c cl iter it) (he:∀cenv,PE K A cenv (compC c sc) cl elt a) (hf:∀cenv,PF K A cenv (compC c sc) cl ifs fs) :
  PE K A env c cl (.ListComp elt [⟨.Name x px,iter,ifs,0⟩] sc pos) (.comp a tg it fs):=by
 intro ℓ σ v σ' hev ρ s hr fo
 skip
 refine bok_e (hev) fun src σ1 h1 hev=>?_
 refine bok_e (hev) fun vs σ2 h2 hev=>?_
 refine okE hev ?_
 rw [eval_ListComp]
 refine comp_main hh ok hs hx hxl hI he hf h1 h2 hr fo fun s' D C ρ' cacc m e=>?_
 refine ⟨_,e.ns.choose_spec,fun h' hs'=>?_⟩
 refine rEAA (fun ρ'' g r u3_=>?_) (e.done hs')
 exact ⟨ρ'',g,r⟩
end
noncomputable def CallOK (K:Kx) (A:Around) (cl:Cl):Prop :=
 ∀f vs σ v σ',cl.call f vs σ=some (.ok v,σ')→∀ρ s cvs,HR K ρ σ s.heap→RVs K ρ s.heap vs cvs→FF K A ρ s.heap→TR K A (call (.ref (K.fna f)) cvs) ρ s σ' fun ρ' cv s'=>RV K ρ' s'.heap v cv
section
variable {K:Kx}{A:Around}{env:Env}{c:CEnv}{cl:Cl}{T:Tabs}
theorem star_plain {e:Expr}{a:Ex} (h:cE T c e=some a) (es:List Expr):starEach (e::es) env=(false,eval e env)::starEach es env:=by
 cases e with
 | Starred _ _=>exact nn h
 | _=>rfl
theorem cEs_cons {e:Expr}{es:List Expr}{as:Es} (h:cEs T c (e::es)=some as):∃a b,cE T c e=some a∧cEs T c es=some b∧as=.cons a b:=by
 refine bind_e ((show (cE T c e).bind _=some as from h)) fun a h1 h2=>?_
 refine mapn_e (h2) fun b h3 h4=>?_
 exact ⟨a,b,h1,h3,h4.symm⟩
theorem star_all:∀{es:List Expr}{as:Es},cEs T c es=some as→starEach es env=es.map fun e=>(false,eval e env)
 | [],_,_=>rfl
 | e::es,as,h=>by
  refine rEEAA (fun a b h1 h2 u4_=>?_) (cEs_cons h)
  rw [star_plain h1,star_all h2];rfl
theorem back_all {es:List Expr}{as:Es} (h:cEs T c es=some as) (pos:Pos):backTo pos (starEach es env)=es.map fun e=>(false,eval e env):=by
 rw [star_all h,backTo,List.map_map];rfl
theorem evalArgs_list {f : Value} {xs : List Expr} {Q : Args → Shared → Prop} {E : Value → Shared → Prop} (h : wpAny K.M A (spliced (xs.map fun e => (false, eval e env))) (fun vs s' => Q ⟨vs, []⟩ s') E s) :
  wpAny K.M A (evalArgs f true (xs.map fun e=>(false,eval e env)) []) Q E s:=by
 cases xs with
 | nil=>
  unfold evalArgs
  show wpAny K.M A (spliced [] >>= _) Q E s
  refine wpAny_bind (wpAny_mono h (fun vs s' h'=>?_) fun u_ v_ x=>x)
  refine wpAny_holding ?_
  exact wpAny_bind (wpAny_pure (wpAny_bind (wpAny_pure (wpAny_pure h'))))
 | cons x r=>exact Calls.evalArgs_plain h
theorem any_plain (xs:List Expr):(xs.map fun e=>((false,eval e env):Bool×Sem Value)).any (·.1)=false:=by
 induction xs with
 | nil=>rfl
 | cons x r ih=>simp
theorem callWith_machine {pos : Pos} {f : Value} (hf : keeperOf f = pure .machine) {first : List Value} {xs : List Expr} {Q : Value → Shared → Prop} {E : Value → Shared → Prop} 
  (h:wpAny K.M A (spliced (xs.map fun e=>(false,eval e env))) (fun vs s₁=>wpAny K.M A (call f (first++vs) []) Q E s₁) E s):wpAny K.M A (callWith pos f first (xs.map fun e=>(false,eval e env)) []) Q E s:=by
 unfold callWith
 refine wpAny_bind (wpAny_holding (evalArgs_list (wpAny_mono h (fun a s₁ h₁=>wpAny_bind (wpAny_standAt ?_)) fun u_ v_ x=>x)))
 rw [any_plain,List.any_nil,Bool.or_false,hf]
 exact wpAny_bind (wpAny_pure (wpAny_bind (wpAny_mono h₁ (fun r s₂ hr=>wpAny_bind (wpAny_holding (wpAny_point (wpAny_pure hr)))) fun u_ v_ x=>x)))
theorem pe_blt (G : GK K T) (ty : TyOK K) {f : Str} {p pos : Pos} {es : List Expr} {as : Es} {b : Blt} (hh : b ≠ .isinstance → b ≠ .len → A.handled = none) (hsort : b = .sorted → ∀ (σ σ' : H) (vs : List V) (v : V), bltV b vs σ = some (v, σ') → ∀ (ρ : List Addr) (s : Shared) (cas : List Value), HR K ρ σ s.heap → RVs K ρ s.heap vs cas →
      TR K A (call (bltVal b) cas) ρ s σ' fun ρ' cv s'=>RV K ρ' s'.heap v cv)
    (hg:isGlob c f=true) (hb:T.blts.lookup f=some b) (hc:cEs T c es=some as) (h:PEs K A env c cl es as):PE K A env c cl (.Call (.Name f p) es [] pos) (.blt b as):=by
  intro ℓ σ v σ' he ρ s hr fo
  skip
  refine bok_e (he) fun vs σ1 h1 he=>?_
  have he:=okH_inv he
  refine rEEAAAAA (fun mg mb hmg hmb u4_ u5_ hblt u7_=>?_) G.g
  simp only [isGlob,Bool.and_eq_true,beq_iff_eq,Bool.not_eq_true'] at hg
  show TR K A (eval (.Name f p) env >>= fun fv=>callWith pos fv [] (backTo pos (starEach es env)) []) ρ s σ' _
  refine wpAny_bind (glob_load hr fo hg.1 hg.2 hmg hmb (.inr (hblt f b hb)) ?_)
  rw [back_all hc]
  refine callWith_machine (by cases b <;> rfl) ?_
  have hp:=h pos ℓ σ vs σ1 h1 ρ s hr fo
  rw [back_all hc] at hp
  refine wpAny_mono hp (fun cvs s1 hq=>?_) fun u_ v_ f=>f
  revert hq;refine rEA fun ρ1 g1 rvs=>?_
  rw [List.nil_append]
  by_cases hbs:b=.sorted
  · exact TR.after g1 (hsort hbs σ1 σ' vs v he ρ1 s1 cvs g1.hr rvs)
  · exact TR.after g1 (blt_sound he hbs g1.hr rvs hh ty)
theorem pe_call (G : GK K T) (hcall : CallOK K A cl) {f : Str} {p pos : Pos} {es : List Expr} {as : Es} {n : Nat} (hg : isGlob c f = true) (hn : T.fns.lookup f = some n) (hc : cEs T c es = some as) (h : PEs K A env c cl es as) :
  PE K A env c cl (.Call (.Name f p) es [] pos) (.call n as):=by
 intro ℓ σ v σ' he ρ s hr fo
 skip
 refine bok_e (he) fun vs σ1 h1 he=>?_
 refine rEEAAAA (fun mg mb hmg hmb u4_ hfn u6_=>?_) G.g
 refine rAEEA (fun hm o fd ho hd=>?_) (hfn f n hn)
 simp only [isGlob,Bool.and_eq_true,beq_iff_eq,Bool.not_eq_true'] at hg
 show TR K A (eval (.Name f p) env >>= fun fv=>callWith pos fv [] (backTo pos (starEach es env)) []) ρ s σ' _
 refine wpAny_bind (glob_load hr fo hg.1 hg.2 hmg hmb (.inl hm) ?_)
 rw [back_all hc]
 have hp:=h pos ℓ σ vs σ1 h1 ρ s hr fo
 rw [back_all hc] at hp
 refine Calls.callWith_function (o:=o) (fd:=fd) (evalArgs_list (wpAny_mono hp (fun cvs s1 hq=>?_) fun u_ v_ f=>f))
 revert hq;refine rEA fun ρ1 g1 rvs=>?_
 refine ⟨⟨g1.hr.keep _ _ ho,hd⟩,?_⟩
 exact TR.after g1 (hcall n vs σ1 v σ' he ρ1 s1 cvs g1.hr rvs (fo.ff.step g1.st))
theorem rng_it (hr : HR K ρ σ s.heap) {a b : Int} {t u v : Tok} {r : Addr} (hR : IsRange s.heap r a b 1 t u v) (ha : -lenMax ≤ a ∧ a ≤ lenMax) (hb : -lenMax ≤ b ∧ b ≤ lenMax) {Q : Value → Shared → Prop} {E : Value → Shared → Prop}
  (hq:∀h',Good K ρ s ρ σ { s with heap:=h' }→ItOK K ρ s.heap.objs.size 0 h' ⟨rngL a b,fun u_=>True⟩ (.rng a (b - a).toNat)→Q (.ref s.heap.objs.size) { s with heap:=h' }):wpAny K.M A (pyIter (.ref r)) Q E s:=by
 refine rA (fun f1 f2=>?_) (fresh_off hr)
 unfold lenMax at ha hb
 refine wpAny_pyIter_range hR ?_ (hq _ (Good.tmp hr _ _) ⟨?_,⟨rfl,rfl⟩,f1,f2⟩)
 ·have fit : ∀ z : Int, -2000000 ≤ z → z ≤ 2000000 → Builtin.Range.rangeFitsLong z = true := by
   intro z h1 h2;unfold Builtin.Range.rangeFitsLong;simp;exact lz1 [(.zle (.g (.k 2000000)) .v0),(.zle .v0 (.k 2000000))] (.an (.zle (.g (.k 9223372036854775808)) .v0) (.zlt .v0 (.k 9223372036854775808))) (.s (.d 111) (.d 1101)) rfl h1 h2
  unfold Builtin.Range.small Builtin.Range.rangeSize
  simp only [Bool.and_eq_true,Bool.or_eq_true]
  have hz:Builtin.Range.rangeFitsLong (if (1:Int) > 0 then (if a < b then (b - a - 1) / 1 + 1 else 0) else (if a > b then (a - b - 1) / (-1) + 1 else 0))=true:=by
   rw [if_pos (by decide)];split <;> exact fit _ (by lia) (by lia)
  refine ⟨⟨⟨⟨fit a (by exact lz1 [(.an (.zle (.g (.n (.k 1000000))) .v0) (.zle .v0 (.n (.k 1000000))))] (.zle (.g (.k 2000000)) .v0) (.d 111) rfl ha) (by exact lz1 [(.an (.zle (.g (.n (.k 1000000))) .v0) (.zle .v0 (.n (.k 1000000))))] (.zle .v0 (.k 2000000)) (.d 1101) rfl ha),fit b (by exact lz1 [(.an (.zle (.g (.n (.k 1000000))) .v0) (.zle .v0 (.n (.k 1000000))))] (.zle (.g (.k 2000000)) .v0) (.d 111) rfl hb) (by exact lz1 [(.an (.zle (.g (.n (.k 1000000))) .v0) (.zle .v0 (.n (.k 1000000))))] (.zle .v0 (.k 2000000)) (.d 1101) rfl hb)⟩,fit 1 (by exact lin [] (.zle (.g (.k 2000000)) .k1) (.d 11) rfl [] []) (by exact lin [] (.zle .k1 (.k 2000000)) (.d 11) rfl [] [])⟩,hz⟩,?_⟩
  right
  simp
  exact fit b (by exact lz1 [(.an (.zle (.g (.n (.k 1000000))) .v0) (.zle .v0 (.n (.k 1000000))))] (.zle (.g (.k 2000000)) .v0) (.d 111) rfl hb) (by exact lz1 [(.an (.zle (.g (.n (.k 1000000))) .v0) (.zle .v0 (.n (.k 1000000))))] (.zle .v0 (.k 2000000)) (.d 1101) rfl hb)
 ·show IsRangeIter _ _ _ _ _
  have e:Builtin.Range.rangeSize a b 1=(((b - a).toNat:Nat):Int):=by
   unfold Builtin.Range.rangeSize;simp;lia
  have := Heap.get?_push_size s.heap (o := { cls := .type "range_iterator", data := .fields #[rawInt a, rawInt (Builtin.Range.rangeSize a b 1), rawInt 1] }) rfl
  rw [e] at this ⊢
  simpa [IsRangeIter] using this
set_option tactic.hygienic true in
theorem pi_rng1 (G:GK K T) {f:Str}{p pos:Pos}{es:List Expr}{a:Ex} (hg:isGlob c f=true) (hf:(f == sRange)=true) (hc:cEs T c es=some (.cons a .nil)) (h:PEs K A env c cl es (.cons a .nil)):PI K A env c cl (.Call (.Name f p) es [] pos) (.rng1 a):=by
 intro ℓ σ src σ' he ρ s hr fo
 skip
 refine bok_e (he) fun x σ1 h1 he=>?_
 refine rEEAAAAAA (fun mg mb hmg hmb u4_ u5_ u6_ hr1 hr2=>?_) G.g
 obtain rfl:=beq_iff_eq.mp hf
 simp only [isGlob,Bool.and_eq_true,beq_iff_eq,Bool.not_eq_true'] at hg
 show wpAny K.M A (eval (.Name sRange p) env >>= fun fv=>callWith pos fv [] (backTo pos (starEach es env)) []) _ _ s
 refine wpAny_bind (glob_load hr fo hg.1 hg.2 hmg hmb (.inr ⟨hr1,hr2⟩) ?_)
 rw [back_all hc]
 refine callWith_machine rfl ?_
 have hp:=h pos ℓ σ [x] σ1 (by show bok (evalE cl _ ℓ σ) _=_;rw [h1];rfl) ρ s hr fo
 rw [back_all hc] at hp
 refine wpAny_mono hp (fun cvs s1 hq=>?_) fun u_ v_ f=>f
 revert hq;refine rEA fun ρ1 g1 rvs=>?_
 cases x with
 | int b=>
  simp only at he
  split at he
  ·rename_i hb
   refine okE he ?_
   refine rEEAA (fun u0_ u1_ hO2 r0 rn=>?_) (rvs.consI);refine eqS hO2 ?_
   obtain rfl:=rn.nilI
   refine byC fun hX=>?_;refine rE (fun t hO1=>?_) (r0.intI rfl);obtain rfl:=hO1;refine hX ?_;clear hX
   refine call_range_1 ?_
   have g2 := Good.tmp g1.hr { cls := .type "range", data := .fields #[.int 0 s1.toks, .int b t, .int 1 (s1.toks + 1)] } (s1.toks + 1 + 1)
   refine rng_it g2.hr (Heap.get?_push_size _ rfl) (by unfold lenMax;exact lin [] (.an (.zle (.g (.n (.k 1000000))) .k0) (.zle .k0 (.n (.k 1000000)))) (.s (.d 11) (.d 11)) rfl [] []) hb fun h' g ok=>⟨ρ1,_,_,rfl,(g1.trans g2).trans g,ok,trivial,(g1.trans g2).back (get?_size _)⟩
  ·exact nn he
 | _=>exact nn he
theorem HR.nt (x:HR K ρ σ h) {a:Addr} (ha:a∈ρ):∀ws,h.get? a≠some (tupObj ws):=by
 intro ws e
 refine rEA (fun ob e' hc=>?_) (x.at_ ha)
 rw [e] at e';obtain rfl:=Option.some.inj e';exact hc _ rfl
theorem HR.setO (x:HR K ρ σ h) {n:Nat}{a:Addr}{o0 o1:O} (hn:σ[n]? = some o0) (ha:ρ[n]? = some a) (hd:OR K ρ h' a o1) (hk:∀b o,b≠a→h.get? b=some o→h'.get? b=some o):HR K ρ (σ.set n o1) h':=by
 have hnt:=x.nt (List.mem_of_getElem? ha)
 have a0:=x.new a (List.mem_of_getElem? ha)
 refine ⟨fun b o e=>hk b o (by rintro rfl;rw [a0] at e;exact nn e) (x.keep b o e),by simp [x.len],x.nd,x.new,fun k o b h1 h2=>?_⟩
 by_cases hkn:k=n
 ·subst hkn
  rw [ha] at h2;refine siE h2 ?_
  have hlt:=(List.getElem?_eq_some_iff.mp hn).1
  rw [List.getElem?_set_self hlt] at h1;refine siE h1 ?_
  exact hd
 ·rw [List.getElem?_set_ne (fun e=>hkn e.symm)] at h1
  have hba:b≠a:=by
   rintro rfl
   exact hkn ((List.getElem?_inj (List.getElem?_eq_some_iff.mp h2).1 x.nd).mp (h2.trans ha.symm))
  exact (x.obj k o b h1 h2).move (List.prefix_refl _) (fun b ws eb=>hk _ _ (by rintro rfl;exact hnt _ eb) eb) fun o e=>ng_keep1 (fun o e=>hk _ _ hba e) e
theorem HR.setList (x : HR K ρ σ h) {n : Nat} {a : Addr} {l' : List V} {vs' : List Value} {m' : Nat} {o0 : O} (hn : σ[n]? = some o0) (ha : ρ[n]? = some a) (hd : h'.get? a = some (listObj vs' m')) (hk : ∀ b o, b ≠ a → h.get? b = some o → h'.get? b = some o)
  (r:RVs K ρ h l' vs') (hl:l'.length≤lenMax):HR K ρ (σ.set n (.list l')) h' :=
 x.setO hn ha ⟨vs',m',hd,r.but (x.nt (List.mem_of_getElem? ha)) hk,hl⟩ hk
theorem Step.set {a:Addr}{t:Nat} (ha:a∈ρ) (hk:∀b o,b≠a→s.heap.get? b=some o→h'.get? b=some o):Step ρ s ρ { s with heap:=h',toks:=t } :=
 ⟨List.prefix_refl _,fun b o e hb=>ng_keep1 (fun o e=>hk b o (by rintro rfl;exact hb ha) e) e,fun u_ h=>.inl h,rfl,rfl⟩
end
section
variable {K:Kx}{A:Around}{env:Env}{c:CEnv}{cl:Cl}{T:Tabs}
theorem base_of {o:Expr} (h:isCall o=false) (name:Str) (w:Sem Value):attributeBase o name env w=w:=by
 cases o <;> first | rfl | (exact tf h)
theorem few_of {es : List Expr} {as : Es} (h : cEs T c es = some as) (hl : es.length < 20) (pos : Pos) :
  ((backTo pos (starEach es env)).all (fun x=>!x.1) && (backToKw pos (keywordEach [] env)).all (fun x=>x.1.isSome) && decide (es.length + ([]:List Keyword).length + (if ([]:List Keyword).isEmpty then 0 else 1) < 30))=true:=by
 rw [back_all h]
 show (_ && _ && decide _)=true
 rw [show backToKw pos (keywordEach [] env)=[] from rfl]
 simp
 exact ln1 [(.lt .v0 (.k 20))] (.lt .v0 (.k 30)) (.d 111) rfl hl
theorem lst_inv {n:Nat}{l:List V} (h:listOf σ (.obj n)=some l):σ[n]? = some (.list l):=by
 have h:(match σ[n]? with | some (.list l)=>some l | _=>Option.none)=some l:=h
 cases e:σ[n]? with
 | none=>rw [e] at h;exact nn h
 | some o=>
  rw [e] at h
  cases o with
  | list l'=>refine siE h ?_;rfl
  | _=>exact nn h
theorem objNo_inv {v:V}{n:Nat} (h:objNo v=some n):v=.obj n:=by
 cases v with
 | obj m=>refine siE h ?_;rfl
 | _=>exact nn h
set_option tactic.hygienic true in
theorem listOf_obj {n:Nat}{l:List V} (h:listOf σ (.obj n)=some l):σ[n]? = some (.list l):=by
 simp only [listOf] at h
 split at h
 ·rename_i hl;refine siE h ?_;exact hl
 ·exact nn h
set_option tactic.hygienic true in
theorem append_inv {x v:V}{vs:List V} (h:mthV .append x vs σ=some (v,σ')):∃n x0 l,x=.obj n∧vs=[x0]∧σ[n]? = some (.list l)∧l.length < lenMax∧v=.none∧σ'=σ.set n (.list (l++[x0])):=by
 refine bind_e (h) fun n hn h1=>?_
 refine bind_e (h1) fun l hl h2=>?_
 refine bind_e ((show (arg1 vs).bind _=_ from h2)) fun x0 hx h3=>?_
 rw [objNo_inv hn] at hl
 split at h3
 ·rename_i hlt;refine pE h3 ?_;exact ⟨n,x0,l,objNo_inv hn,arg1_inv hx,listOf_obj hl,hlt,rfl,rfl⟩
 ·exact nn h3
set_option tactic.hygienic true in
theorem pop_inv {x v:V}{vs:List V} (h:mthV .pop x vs σ=some (v,σ')):∃n l,x=.obj n∧vs=[]∧σ[n]? = some (.list l)∧l.getLast? = some v∧σ'=σ.set n (.list l.dropLast):=by
 refine bind_e (h) fun n hn h1=>?_
 refine bind_e (h1) fun l hl h2=>?_
 have h2:popV σ n l vs=some (v,σ'):=h2
 rw [objNo_inv hn] at hl
 unfold popV at h2
 split at h2
 ·rename_i hv
  refine mapn_e (h2) fun y hy e=>?_
  refine piE e ?_
  exact ⟨n,l,objNo_inv hn,hv,listOf_obj hl,hy,rfl⟩
 ·exact nn h2
theorem bools_inv:∀{l:List V}{bs:List Bool},asBools l=some bs→l=bs.map V.bool
 | [],bs,h=>by obtain rfl:=Option.some.inj h;rfl
 | v::r,bs,h=>by
  refine bind_e ((show (asBoolV v).bind _=some bs from h)) fun b hb h1=>?_
  refine byC fun hX=>?_;obtain ⟨bs',h2,rfl⟩:=Option.map_eq_some_iff.mp h1;refine hX ?_;clear hX
  have hv:v=.bool b:=by
   cases v with
   | bool c=>obtain rfl:=Option.some.inj (show some c=some b from hb);rfl
   | _=>exact nn hb
  rw [bools_inv h2,hv];rfl
theorem index_inv {x:V}{vs:List V}{r:V×H} (h:mthV .index x vs σ=some r):∃(n:Nat) (bs:List Bool) (b:Bool) (j:Nat),x=.obj n∧vs=[.bool b]∧σ[n]? = some (.list (bs.map V.bool))∧bs.idxOf b=j∧j < bs.length∧r=(.int (j:Nat),σ):=by
 refine bind_e (h) fun n hn h1=>?_
 refine bind_e (h1) fun l hl h2=>?_
 refine bind_e ((show (arg1 vs).bind _=some r from h2)) fun w hw h3=>?_
 refine bind_e (h3) fun b hb h4=>?_
 refine bind_e (h4) fun bs hbs h5=>?_
 refine byC fun hX=>?_;obtain ⟨j,hj,rfl⟩:=Option.map_eq_some_iff.mp h5;refine hX ?_;clear hX
 refine ite_e ((show (if bs.idxOf b < bs.length then some (bs.idxOf b) else .none)=some j from hj)) fun hlt e=>?_
 have hx:=objNo_inv hn
 rw [hx] at hl
 have hl:=lst_inv hl
 rw [bools_inv hbs] at hl
 have hv:w=.bool b:=by
  cases w with
  | bool c=>obtain rfl:=Option.some.inj (show some c=some b from hb);rfl
  | _=>exact nn hb
 have e:=Option.some.inj e
 exact ⟨n,bs,b,j,hx,by rw [arg1_inv hw,hv],hl,e,e ▸ hlt,rfl⟩
theorem rv_bools :∀{bs:List Bool}{ws:List Value},RVs K ρ h (bs.map V.bool) ws→ws=bs.map Value.bool
 | [],ws,r=>r.nilI
 | b::bs,ws,r=>by
  refine byC fun hX=>?_;refine rEEAA (fun w wr hO2 r0 rs=>?_) r.consI;obtain rfl:=hO2;refine hX ?_;clear hX
  rw [rv_bools rs,r0.boolI rfl];rfl
theorem index_sound {x v : V} {vs : List V} (h : mthV .index x vs σ = some (v, σ')) {cx : Value} {cvs : List Value} (hr : HR K ρ σ s.heap) (rx : RV K ρ s.heap x cx) (rvs : RVs K ρ s.heap vs cvs) :
  TR K A (call (.builtin "list.index") (cx :: cvs)) ρ s σ' fun ρ' cv s' => RV K ρ' s'.heap v cv := by
 refine byC fun hX=>?_;refine rEEEEAAAAA (fun n bs b j hO4 hO5 hn hj hlt e=>?_) (index_inv h);obtain rfl:=hO4;obtain rfl:=hO5;refine hX ?_;clear hX
 refine byC fun hX=>?_;refine rA (fun hO0 hO1=>?_) (Prod.mk.inj e);obtain rfl:=hO0;obtain rfl:=hO1;refine hX ?_;clear hX
 refine byC fun hX=>?_;refine rEA (fun a hO1 ha=>?_) (rx.objI rfl);obtain rfl:=hO1;refine hX ?_;clear hX
 refine byC fun hX=>?_;refine rEEAA (fun c cr hO2 r0 rn=>?_) rvs.consI;obtain rfl:=hO2;refine hX ?_;clear hX
 obtain rfl:=rn.nilI
 obtain rfl:=r0.boolI rfl
 refine rEEAA (fun ws m e r hll=>?_) (hr.obj _ _ _ hn ha)
 obtain rfl:=rv_bools r
 have hget:∀k (hk:k < (bs.map Value.bool).toArray.size),(bs.map Value.bool).toArray[k]=.bool (bs[k]'(by simpa using hk)):=fun k hk=>by simp
 have hsm:bs.length≤lenMax:=by simpa using hll
 have hmx:lenMax=1000000:=rfl
 refine call_meets F.slot_list_index ⟨_,e,rfl⟩ F.entry_list_index (F.args_list_index_2 _ _) (MeetsSeq.list_index a (bs.map Value.bool).toArray m (.bool b) (fun y=>match y with | .bool c=>c == b | _=>false) (fun y hy=>?_) j (by simpa using hlt) (by omega) ?_ ?_) ⟨e,?_⟩
 ·have hy:y∈bs.map Value.bool:=by simpa using hy
  refine byC fun hX=>?_;refine rEA (fun c u1_ hO2=>?_) (List.mem_map.mp hy);obtain rfl:=hO2;refine hX ?_;clear hX
  exact fun prog w A E s Q hq=>EqAt.bool_bool c b prog w E Q hq
 ·rw [hget j (by simpa using hlt)]
  show (bs[j] == b)=true
  subst hj
  simp
 ·intro k hk hkj
  rw [hget k hk]
  show (bs[k]'(by simpa using hk) == b)=false
  have h:=List.not_of_lt_findIdx (p:=(· == b)) (xs:=bs) (i:=k) (by have:bs.findIdx (· == b)=j:=hj;omega)
  simpa using h
 ·exact ⟨ρ,(Good.refl hr).tok _,.int _ _⟩
theorem append_sound {x v : V} {vs : List V} (h : mthV .append x vs σ = some (v, σ')) {cx : Value} {cvs : List Value} (hr : HR K ρ σ s.heap) (rx : RV K ρ s.heap x cx) (rvs : RVs K ρ s.heap vs cvs) :
  TR K A (call (.builtin "list.append") (cx :: cvs)) ρ s σ' fun ρ' cv s' => RV K ρ' s'.heap v cv := by
 refine byC fun hX=>?_;refine rEEEAAAAA (fun n x0 l hO3 hO4 hn hlen hO7 hO8=>?_) (append_inv h);obtain rfl:=hO3;obtain rfl:=hO4;obtain rfl:=hO7;obtain rfl:=hO8;refine hX ?_;clear hX
 refine byC fun hX=>?_;refine rEA (fun a hO1 ha=>?_) (rx.objI rfl);obtain rfl:=hO1;refine hX ?_;clear hX
 refine rEEAA (fun u0_ u1_ hO2 r0 rn=>?_) (rvs.consI);refine eqS hO2 ?_
 obtain rfl:=rn.nilI
 refine rEEAA (fun ws m e r u4_=>?_) (hr.obj _ _ _ hn ha)
 refine wpAny_list_append_plain (items:=ws.toArray) ⟨m,e⟩ (fun h' hp hs'=>?_) (by have:=list_len r (Nat.le_of_lt hlen);simpa using this)
 revert hp;refine rE fun m2 hp=>?_
 have hk:∀b o,b≠a→s.heap.get? b=some o→h'.get? b=some o:=fun b o hb e=>(hs'.2 b hb).trans e
 refine ⟨ρ,⟨hr.setList hn ha (vs':=ws++[_]) (m':=m2) ?_ hk (r.append (.cons r0 .nil)) (by simp;exact ln2 [(.lt .v0 .v1)] (.le (.a .v0 .k1) .v1) (.d 111) rfl hlen),Step.set (List.mem_of_getElem? ha) hk⟩,.none⟩
 rw [hp];simp
theorem pop_sound {x v : V} {vs : List V} (h : mthV .pop x vs σ = some (v, σ')) {cx : Value} {cvs : List Value} (hr : HR K ρ σ s.heap) (rx : RV K ρ s.heap x cx) (rvs : RVs K ρ s.heap vs cvs) :
  TR K A (call (.builtin "list.pop") (cx :: cvs)) ρ s σ' fun ρ' cv s' => RV K ρ' s'.heap v cv := by
 refine byC fun hX=>?_;refine rEEAAAA (fun n l hO2 hO3 hn hlast hO6=>?_) (pop_inv h);obtain rfl:=hO2;obtain rfl:=hO3;obtain rfl:=hO6;refine hX ?_;clear hX
 refine byC fun hX=>?_;refine rEA (fun a hO1 ha=>?_) (rx.objI rfl);obtain rfl:=hO1;refine hX ?_;clear hX
 obtain rfl:=rvs.nilI
 refine rEEAA (fun ws m e r hll=>?_) (hr.obj _ _ _ hn ha)
 have hlen:=r.length
 have hne:l≠[]:=by rintro rfl;exact nn hlast
 have hpos:0 < l.length:=List.length_pos_iff.mpr hne
 have hget:l[l.length - 1]? = some v:=by rw [← List.getLast?_eq_getElem?];exact hlast
 refine rEA (fun cv hc rv=>?_) (r.get hget)
 refine call_meets F.slot_list_pop ⟨_,e,rfl⟩ F.entry_list_pop (F.args_list_pop_1 _) (MeetsSeq.list_pop_last a ws.toArray m cv (by simpa [← hlen] using hc) (by have:=list_len r hll;simpa using this)) ⟨e,?_⟩
 have hk:∀b o,b≠a→s.heap.get? b=some o→(s.heap.update a (Obj.mapSeq fun xs=>xs.eraseIdxIfInBounds (ws.toArray.size - 1))).get? b=some o:=fun b o hb e=>by
  rw [Heap.get?_update_other _ _ (fun e'=>hb e'.symm)];exact e
 have hd:∃m2,(s.heap.update a (Obj.mapSeq fun xs=>xs.eraseIdxIfInBounds (ws.toArray.size - 1))).get? a=some (listObj ws.dropLast m2):=by
  have hge:(Obj.mapSeq (fun xs=>xs.eraseIdxIfInBounds (ws.toArray.size - 1)) (listObj ws m))=listObj ws.dropLast (m + 1):=by
   have e1:ws.toArray.eraseIdxIfInBounds (ws.toArray.size - 1)=ws.dropLast.toArray:=by
    have hlt:ws.length - 1 < ws.length:=by exact ln3 [(.eq .v2 .v1),(.lt .k0 .v2),(.sb .v0 .v1 .k1)] (.lt .v0 .v1) (.s (.d 1100001) (.d 1110101)) rfl hlen hpos (sub_ax _ _)
    simp [Array.eraseIdxIfInBounds,hlt,List.eraseIdx_length_sub_one]
   have hsz:(ws.dropLast.toArray.size == ws.toArray.size)=false:=by simp;exact ln3 [(.eq .v2 .v1),(.lt .k0 .v2),(.sb .v0 .v1 .k1)] (.no (.eq .v0 .v1)) (.s (.d 10100001) (.d 10110101)) rfl hlen hpos (sub_ax _ _)
   show ({ cls := .type "list", data := .seq (ws.toArray.eraseIdxIfInBounds (ws.toArray.size - 1)) (if ((ws.toArray.eraseIdxIfInBounds (ws.toArray.size - 1)).size == ws.toArray.size) = true then m else m + 1) } : Obj) = _
   simp only [e1,hsz];rfl
  refine ⟨m + 1,?_⟩
  rw [Heap.get?_update_self _ e (by rw [hge];rfl),hge]
 revert hd;refine rE fun m2 hd=>?_
 have hnt:∀us,s.heap.get? a≠some (tupObj us):=by intro us e';rw [e] at e';exact list_ne_tup e'
 have rd:RVs K ρ s.heap l.dropLast ws.dropLast:=by
  rw [List.dropLast_eq_take,List.dropLast_eq_take,hlen];exact r.take _
 exact ⟨ρ,⟨hr.setList hn ha hd hk rd (by simp;exact ln2 [(.le .v0 .v1)] (.le .v0 (.a .v1 .k1)) (.d 111) rfl hll),Step.set (List.mem_of_getElem? ha) hk⟩,rv.but hnt hk⟩
noncomputable def mthName:Mth→Str
 | .append=>sAppend
 | .pop=>sPop
 | .index=>sIndex
theorem pe_mth {mm : Mth} {o : Expr} {p pos : Pos} {es : List Expr} {a : Ex} {as : Es} (hline : (p.endLine == pos.line) = true) (hcall : isCall o = false) (hlen : es.length < 20)
  (hc:cEs T c es=some as) (ho:PE K A env c cl o a) (h:PEs K A env c cl es as):PE K A env c cl (.Call (.Attribute o (mthName mm) p) es [] pos) (.mth mm a as):=by
 intro ℓ σ v σ' he ρ s hr fo
 skip
 refine bok_e (he) fun x σ1 h1 he=>?_
 refine bind_e (he) fun l0 hl0 he=>?_
 refine bok_e (he) fun vs σ2 h2 he=>?_
 have he:=okH_inv he
 refine wpAny_Call_method_lateS (base_of hcall _ _) (few_of hc hlen pos) hline (wpAny_mono (ho ℓ σ x σ1 h1 ρ s hr fo) (fun cx s1 hq=>?_) fun u_ v_ f=>f)
 revert hq;refine rEA fun ρ1 g1 rx=>?_
 have hn:∃n,x=.obj n:=by
  cases mm with
  | append=>refine rEEEA (fun n u1_ u2_ hO3 u4_=>?_) (append_inv he);refine eqS hO3 ?_;exact ⟨n,rfl⟩
  | pop=>refine rEEA (fun n u1_ hO2 u3_=>?_) (pop_inv he);refine eqS hO2 ?_;exact ⟨n,rfl⟩
  | index=>refine byC fun hX=>?_;refine rEEEEA (fun n u1_ u2_ u3_ hO4 u5_=>?_) (index_inv he);obtain rfl:=hO4;refine hX ?_;clear hX;exact ⟨n,rfl⟩
 refine byC fun hX=>?_;revert hn;refine rE fun n hO1=>?_;obtain rfl:=hO1;refine hX ?_;clear hX
 have hp:=h pos ℓ σ1 vs σ2 h2 ρ1 s1 g1.hr (fo.step hr g1.st)
 refine byC fun hX=>?_;refine rEA (fun ax hO1 ha=>?_) (rx.objI rfl);obtain rfl:=hO1;refine hX ?_;clear hX
 have hobj : ∃ ob, s1.heap.get? ax = some ob ∧ ob.cls = .type "list" ∧ ob.dict = none := by
  refine rEEA (fun ws m e u3_=>?_) (g1.hr.obj n _ ax (listOf_obj hl0) ha);exact ⟨_,e,rfl,rfl⟩
 revert hobj;refine rEAA fun ob eob hcls hdict=>?_
 rw [back_all hc] at hp
 have fin : ∀ id : String, (∀ (s2 : Shared) (ρ2 : List Addr) (cvs : List Value), HR K ρ2 σ2 s2.heap → RV K ρ2 s2.heap (.obj n) (.ref ax) → RVs K ρ2 s2.heap vs cvs → TR K A (call (.builtin id) (.ref ax :: cvs)) ρ2 s2 σ' fun ρ' cv s' => RV K ρ' s'.heap v cv) →
   Slot "list" (mthName mm) id → typeOf (.builtin id) = pure (.type "method_descriptor") → MethodOnS K.prog K.w A (fun u_ v_ => False) (mthName mm) (.ref ax) pos (backTo pos (starEach es env)) (fun a s' => ∃ ρ', Good K ρ s ρ' σ' s' ∧ RV K ρ' s'.heap v a) s1 := by
  intro id hid hslot htype
  refine ⟨"list", id, F.plainAttrs_list, hslot, htype, ⟨ob, eob, hcls⟩, fun a' e => by cases e; exact ⟨ob, eob, hdict⟩, ?_⟩
  rw [back_all hc]
  refine callWith_machine rfl (wpAny_mono hp (fun cvs s2 hq=>?_) fun u_ v_ f=>f)
  revert hq;refine rEA fun ρ2 g2 rvs=>?_
  exact TR.after (g1.trans g2) (hid s2 ρ2 cvs g2.hr (.obj (pre_get g2.st.pre ha)) rvs)
 cases mm with
 | append => exact fin "list.append" (fun s2 ρ2 cvs q1 q2 q3 => append_sound he q1 q2 q3) F.slot_list_append F.type_list_append
 | pop => exact fin "list.pop" (fun s2 ρ2 cvs q1 q2 q3 => pop_sound he q1 q2 q3) F.slot_list_pop F.type_list_pop
 | index => exact fin "list.index" (fun s2 ρ2 cvs q1 q2 q3 => index_sound he q1 q2 q3) F.slot_list_index F.type_list_index
end
structure WK (K:Kx) (T:Tabs) (pg:Pg):Prop where
 cls : ∀ c C, K.clv c = .ref C → ∃ N mN, ClsAt K.h0 C N mN ∧ mN "__getattribute__" = none ∧ mN "__getattr__" = none ∧ mN "__setattr__" = none ∧ (∀ k, k < 2 → mN (atn k) = none) ∧
  (∀ x m f, T.meths.lookup x = some m → pg.mt c m = some f → x ∉ [atn 0, atn 1] ∧ mN x = some (.ref (K.fna f)) ∧ (∃ o fd, K.h0.get? (K.fna f) = some o ∧ o.cls = .type "function" ∧ o.data = .func fd) ∧ ∃ y, typeLookup (.type "object") x = pure y) ∧
  ∀ f, pg.init c = some f → mN "__init__" = some (.ref (K.fna f)) ∧ ∃ o, K.h0.get? (K.fna f) = some o ∧ o.cls = .type "function"
 tyb:∀t i,K.tyv t≠.builtin i
 attr:∀x k,T.attrs.lookup x=some k→k < 2∧x=atn k
theorem lk_atn (k : Nat) : typeLookup (.type "object") (atn k) = pure none := by
 by_cases h:k=0
 ·subst h; show typeLookup (.type "object") "top" = _; rw [typeLookup_type, builtinLookup_eq_fast]; kernel_rfl
 ·have : atn k = "many" := if_neg h
  rw [this,typeLookup_type,builtinLookup_eq_fast];kernel_rfl
set_option tactic.hygienic true in
theorem nsOf_inv {x:V}{p:Nat×List (Nat×V)} (h:nsOf σ x=some p):∃n c,x=.obj n∧σ[n]? = some (.inst c p.1)∧σ[p.1]? = some (.ns p.2):=by
 unfold nsOf at h
 split at h
 ·split at h
  ·rename_i c d h1
   split at h
   ·rename_i l h2;refine siE h ?_;exact ⟨_,c,rfl,h1,h2⟩
   ·exact nn h
  ·exact nn h
 ·exact nn h
set_option tactic.hygienic true in
theorem methOf_inv {pg:Pg}{x:V}{m f:Nat} (h:methOf pg σ x m=some f):∃n c d l,x=.obj n∧σ[n]? = some (.inst c d)∧σ[d]? = some (.ns l)∧pg.mt c m=some f:=by
 unfold methOf at h
 split at h
 ·split at h
  ·rename_i c d h1
   split at h
   ·rename_i l h2;exact ⟨_,c,d,l,rfl,h1,h2,h⟩
   ·exact nn h
  ·exact nn h
 ·exact nn h
section
variable {K:Kx}{A:Around}{env:Env}{c:CEnv}{cl:Cl}{T:Tabs}
theorem HR.inst (x : HR K ρ σ h) {n cn d : Nat} {l : List (Nat × V)} {a : Addr} (h1 : σ[n]? = some (.inst cn d)) (h2 : σ[d]? = some (.ns l)) (ha : ρ[n]? = some a) :
  ∃C ad m o,K.clv cn=.ref C∧h.Inst a C m∧ρ[d]? = some ad∧h.get? a=some o∧o.dict=some ad∧ad≠a∧h.Ns1 ad m∧(∀x,m x≠.none→x∈[atn 0,atn 1])∧∀k v,l.lookup k=some v→k < 2∧∃cv,m (atn k)=some cv∧RV K ρ h v cv:=by
 refine rEEEAAAAA (fun o C ad e1 e2 e3 e4 e5 e6=>?_) (x.obj n _ a h1 ha)
 refine rEAA (fun m f1 f2 f3=>?_) (x.obj d _ ad h2 e6)
 have hne:ad≠a:=by
  rintro rfl
  have:=(List.getElem?_inj (List.getElem?_eq_some_iff.mp e6).1 x.nd).mp (e6.trans ha.symm)
  subst this;rw [h1] at h2;cases h2
 exact ⟨C,ad,m,o,e2,⟨o,e1,e3,e4,.inr ⟨ad,e5,hne,f1⟩⟩,e6,e1,e5,hne,f1,f2,f3⟩
theorem handed {v:V}{cv:Value} (tb:∀t i,K.tyv t≠.builtin i) (r:RV K ρ h v cv):handedOut cv=pure cv:=by
 cases r with
 | ty t=>
  cases e:K.tyv t with
  | builtin i=>exact absurd e (tb t i)
  | _=>rfl
 | _=>rfl
theorem pe_attr (W:WK K T cl.pg) {o:Expr}{x:Str}{pos:Pos}{a:Ex}{k:Nat} (ho:(nameIs o).isSome=true) (hk:T.attrs.lookup x=some k) (h:PE K A env c cl o a):PE K A env c cl (.Attribute o x pos) (.attr a k):=by
 intro ℓ σ v σ' he ρ s hr fo
 refine bok_e (he) fun y σ1 h1 he=>?_
 refine rA (fun hv hO1=>?_) (okX_inv he);refine eqS hO1 ?_
 refine bind_e (hv) fun p hp hl=>?_
 refine byC fun hX=>?_;refine rEEAA (fun n cn hO2 i1 i2=>?_) (nsOf_inv hp);obtain rfl:=hO2;refine hX ?_;clear hX
 refine byC fun hX=>?_;refine rA (fun hk2 hO1=>?_) (W.attr x k hk);obtain rfl:=hO1;refine hX ?_;clear hX
 have hb:=h ℓ σ _ _ h1 ρ s hr fo
 cases o with
 | Name z zp=>
  refine Attribute_Name_ (wpAny_mono hb (fun co s1 hq=>?_) fun u_ v_ f=>f)
  revert hq;refine rEA fun ρ1 g1 rx=>?_
  refine byC fun hX=>?_;refine rEA (fun u0_ hO1 ha=>?_) (rx.objI rfl);obtain rfl:=hO1;refine hX ?_;clear hX
  refine rEEEEAAAAAAAA (fun C ad m o e1 e2 e3 e4 e5 e6 e7 e8 e9=>?_) (g1.hr.inst i1 i2 ha)
  refine rAEA (fun u0_ cv q1 q2=>?_) (e9 k v hl)
  refine rEEAAAAA (fun N mN w1 w2 w3 w4 w5 u7_=>?_) (W.cls cn C e1)
  refine rEEEEEEEEEEEE (fun nm q bs sn sub col dd k0 k1 k2' k3 k5 hC=>?_) ((w1.keeps g1.hr.keep).obj)
  exact load_attr hC (w1.keeps g1.hr.keep).ns w2 (w5 k hk2) (lk_atn k) e2 q1 (handed W.tyb q2) ⟨ρ1,g1.tok _,q2⟩
 | _=>exact ft ho
theorem args_run {es : List Expr} {as : Es} {pos : Pos} {vs : List V} (hc : cEs T c es = some as) (h : PEs K A env c cl es as) (h1 : evalEs cl as ℓ σ = some (.ok vs, σ1)) (hr : HR K ρ σ s.heap) (fo : FO K A env c ℓ ρ s.heap)
  {Q:List Value→Shared→Prop}{E:Value→Shared→Prop} (hq:∀ρ1 cvs s1,Good K ρ s ρ1 σ1 s1→RVs K ρ1 s1.heap vs cvs→Q cvs s1):wpAny K.M A (spliced (es.map fun e=>(false,eval e env))) Q E s:=by
 have hp:=h pos ℓ σ vs σ1 h1 ρ s hr fo
 rw [back_all hc] at hp
 exact wpAny_mono hp (fun cvs s1 q=>let ⟨ρ1,g1,r⟩:=q;hq ρ1 cvs s1 g1 r) fun u_ v_ f=>f.elim
theorem ucall_run (W : WK K T cl.pg) {o : Expr} {x : Str} {p pos : Pos} {es : List Expr} {a : Ex} {as : Es} {m f : Nat} {σ2:H} {y : V} {vs : List V} (hm : T.meths.lookup x = some m) (hline : (p.endLine == pos.line) = true) (hcall : isCall o = false) (hlen : es.length < 20)
  (hc:cEs T c es=some as) (ho:PE K A env c cl o a) (h:PEs K A env c cl es as) (h1:evalE cl a ℓ σ=some (.ok y,σ1)) (hf:methOf cl.pg σ1 y m=some f) (h2:evalEs cl as ℓ σ1=some (.ok vs,σ2)) (hr:HR K ρ σ s.heap) (fo:FO K A env c ℓ ρ s.heap)
  {Q:Value→Shared→Prop}{E:Value→Shared→Prop} (hq:∀ρ2 cy cvs s2,Good K ρ s ρ2 σ2 s2→RVs K ρ2 s2.heap (y::vs) (cy::cvs)→wpAny K.M A (call (.ref (K.fna f)) (cy::cvs)) Q E s2):wpAny K.M A (eval (.Call (.Attribute o x p) es [] pos) env) Q E s:=by
 refine byC fun hX=>?_;refine rEEEEAAA (fun n cn d l hO4 i1 i2 hmt=>?_) (methOf_inv hf);obtain rfl:=hO4;refine hX ?_;clear hX
 rw [arm_eval_Call,base_of hcall]
 refine wpAny_bind (wpAny_mono (ho ℓ σ _ σ1 h1 ρ s hr fo) (fun co s1 hq'=>?_) fun u_ v_ f=>f.elim)
 revert hq';refine rEA fun ρ1 g1 rx=>?_
 refine wpAny_bind (wpAny_standAt ?_)
 refine byC fun hX=>?_;refine rEA (fun ax hO1 ha=>?_) (rx.objI rfl);obtain rfl:=hO1;refine hX ?_;clear hX
 refine rEEEEAAAAAAAA (fun C ad mA ob e1 e2 e3 e4 e5 e6 e7 e8 e9=>?_) (g1.hr.inst i1 i2 ha)
 refine rEEAAAAAA (fun N mN w1 w2 w3 w4 w5 w6 u8_=>?_) (W.cls cn C e1)
 refine rAAAE (fun hnx hmx hO2 yy hB=>?_) (w6 x m f hm hmt);revert hO2;refine rEEAA fun of fd hfo hfc hfd=>?_
 refine rEEEEEEEEEEEE (fun nm q bs sn sub col dd k0 k1 k2' k3 k5 hC=>?_) ((w1.keeps g1.hr.keep).obj)
 have hsh:mA x=none:=Classical.byContradiction fun hx=>hnx (e8 x hx)
 have hform:methodCallForm (es.length + ([]:List Keyword).length) (backTo pos (starEach es env)) (backToKw pos (keywordEach [] env))=true:=few_of hc hlen pos
 have hpos:methodCallPos true o env p pos=pure pos:=by unfold methodCallPos;simp [hline]
 unfold methodCall
 rw [hform]
 refine wpAny_bind (wpAny_holding (method_of hC (w1.keeps g1.hr.keep).ns w2 w3 hmx (g1.hr.keep _ _ hfo) hfc hB e2 hsh ?_))
 refine wpAny_bind (wpAny_of_eq hpos ?_)
 show wpAny K.M A (callWith pos (.ref (K.fna f)) [.ref ax] (backTo pos (starEach es env)) []) Q E s1
 rw [back_all hc]
 refine Calls.callWith_function (o:=of) (fd:=fd) (evalArgs_list (args_run (pos:=pos) hc h h2 g1.hr (fo.step hr g1.st) fun ρ2 cvs s2 g2 r=>⟨⟨g2.hr.keep _ _ hfo,hfd⟩,?_⟩))
 exact hq ρ2 (.ref ax) cvs s2 (g1.trans g2) (.cons (.obj (pre_get g2.st.pre ha)) r)
theorem pe_ucall (W : WK K T cl.pg) (hcall' : CallOK K A cl) {o : Expr} {x : Str} {p pos : Pos} {es : List Expr} {a : Ex} {as : Es} {m : Nat} (hm : T.meths.lookup x = some m) (hline : (p.endLine == pos.line) = true) (hcall : isCall o = false) (hlen : es.length < 20)
  (hc:cEs T c es=some as) (ho:PE K A env c cl o a) (h:PEs K A env c cl es as):PE K A env c cl (.Call (.Attribute o x p) es [] pos) (.ucall m a as):=by
 intro ℓ σ v σ' he ρ s hr fo
 refine bok_e (he) fun y σ1 h1 he=>?_
 refine bind_e (he) fun f hf he=>?_
 refine bok_e (he) fun vs σ2 h2 he=>?_
 exact ucall_run W hm hline hcall hlen hc ho h h1 hf h2 hr fo fun ρ2 cy cvs s2 g2 r=>TR.after g2 (hcall' f _ σ2 v σ' he ρ2 s2 _ g2.hr r (fo.ff.step g2.st))
theorem pe_new (G : GK K T) (W : WK K T cl.pg) {f : Str} {p pos : Pos} {n : Nat} (hg : isGlob c f = true) (hn : T.cls.lookup f = some n) (hcall : ∀ C vs, CallOK K (A.under (.builtin "type.__call__" ⟨.ref C :: vs, []⟩)) cl) :
  PE K A env c cl (.Call (.Name f p) [] [] pos) (.new n .nil):=by
 intro ℓ σ v σ' he ρ s hr fo
 refine bind_e (he) fun fi hfi he=>?_
 refine bok_e (he) fun r σ2 h1 he=>?_
 have hrn:r=.none:=by
  cases r with
  | none=>rfl
  | _=>cases he
 subst hrn
 cases he
 refine rEAA (fun mg hmg hcls u3_=>?_) G.g2
 refine rEA (fun C hm hC'=>?_) (hcls f n hn)
 refine rEEAAAAAA (fun N mN w1 w2 w3 w4 w5 u7_ w7=>?_) (W.cls n C hC')
 refine rAEA (fun hi oI hfI hfc=>?_) (w7 fi hfi)
 simp only [isGlob,Bool.and_eq_true,beq_iff_eq,Bool.not_eq_true'] at hg
 refine rEEAA (fun u0_ mb u2_ hmb u4_=>?_) G.g
 show TR K A (eval (.Name f p) env >>= fun fv=>callWith pos fv [] (backTo pos (starEach [] env)) []) ρ s σ' _
 refine wpAny_bind (glob_load hr fo hg.1 hg.2 hmg hmb (.inl hm) ?_)
 refine callWith_cls0 w1 hr.keep ?_
 refine rEEEEEEEEEEEE (fun nm q bs sn sub col dd k0 k1 k2' k3 k5 hC=>?_) ((w1.keeps hr.keep).obj)
 refine byC fun hX=>?_;obtain ⟨hh,gg,dr,t,os⟩:=s;refine hX ?_;clear hX
 refine wpAny_call_obj_init PySem.F.objNew hC (w1.keeps hr.keep).ns hi (hr.keep _ _ hfI) hfc fun h' x dx hm'=>?_
 refine rEAAA (fun oX x1 x2 x3 x4=>?_) hm'.inst
 have hdx:=hm'.dict oX x1
 obtain ⟨d',y1,y2,y3⟩ : ∃d',oX.dict=some d'∧d'≠x∧h'.Ns1 d' fun u_=>none:=by
  rcases x4 with ⟨h0,_⟩ | h0
  ·rw [h0] at hdx;exact nn hdx
  ·exact h0
 rw [hdx] at y1;obtain rfl:=Option.some.inj y1
 have hxρ:x ∉ ρ:=fun hm=>by refine rEA (fun ob e u2_=>?_) (hr.at_ hm);rw [hm'.newX] at e;exact nn e
 have hdρ:dx ∉ ρ:=fun hm=>by refine rEA (fun ob e u2_=>?_) (hr.at_ hm);rw [hm'.newD] at e;exact nn e
 have hl:=hr.len
 have g:Good K ρ ⟨hh,gg,dr,t,os⟩ (ρ++[dx]++[x]) (σ++[.ns []]++[.inst n σ.length]) ⟨h',gg,dr,t,os⟩:=by
  refine ⟨⟨fun b o e=>hm'.keeps b o (hr.keep b o e),by simp [hl],?_,fun b hb=>?_,fun k o b e1 e2=>?_⟩,⟨by rw [List.append_assoc];exact List.prefix_append _ _,fun b o e u_=>ng_keep hm'.keeps e,fun b hb=>?_,rfl,rfl⟩⟩
  ·rw [List.append_assoc,List.nodup_append]
   refine ⟨hr.nd,by simpa using y2,fun b hb c hc e=>?_⟩
   subst e
   simp at hc
   rcases hc with rfl | rfl
   ·exact hdρ hb
   ·exact hxρ hb
  ·have : ∀ z, hh.get? z = none → K.h0.get? z = none := fun z hz => by
    cases e:K.h0.get? z with
    | none=>rfl
    | some o=>rw [show hh.get? z=some o from hr.keep z o e] at hz;exact ns hz
   simp at hb
   rcases hb with hb | rfl | rfl
   ·exact hr.new b hb
   ·exact this _ hm'.newD
   ·exact this _ hm'.newX
  ·by_cases hk:k < σ.length
   ·rw [List.append_assoc,List.getElem?_append_left hk] at e1
    rw [List.append_assoc,List.getElem?_append_left (by rw [hl];exact hk)] at e2
    exact (hr.obj k o b e1 e2).mono (by rw [List.append_assoc];exact List.prefix_append _ _) hm'.keeps
   ·rw [List.append_assoc,List.getElem?_append_right (by exact ln2 [(.no (.lt .v1 .v0))] (.le .v0 .v1) (.d 111) rfl hk)] at e1
    rw [List.append_assoc,List.getElem?_append_right (by exact ln3 [(.eq .v0 .v2),(.no (.lt .v1 .v2))] (.le .v0 .v1) (.d 11101) rfl hl hk)] at e2
    have:k=σ.length∨k=σ.length + 1:=by
     have:=(List.getElem?_eq_some_iff.mp e1).1
     simp at this;lia
    rcases this with rfl | rfl
    ·simp [hl] at e1 e2
     subst e1 e2
     exact ⟨_,y3,fun z hz=>absurd rfl hz,fun k v hv=>by exact nn hv⟩
    ·rw [hl] at e2
     have e3:σ.length + 1 - σ.length=1:=by exact ln2 [(.sb .v0 (.a .v1 .k1) .v1)] (.eq .v0 .k1) (.s (.s (.d 11001) (.d 101)) (.s (.d 1101) (.d 101))) rfl (sub_ax _ _)
     rw [e3] at e1 e2
     simp at e1 e2
     subst e1 e2
     refine ⟨oX,C,dx,x1,hC',x2,x3,hdx,?_⟩
     rw [List.append_assoc,List.getElem?_append_right (by exact ln2 [(.eq .v0 .v1)] (.le .v0 .v1) (.d 111) rfl hl),hl];simp
  ·simp at hb
   rcases hb with hb | rfl | rfl
   ·exact .inl hb
   ·exact .inr hm'.newD
   ·exact .inr hm'.newX
 have hxr:(ρ++[dx]++[x])[σ.length + 1]? = some x:=by
  rw [List.getElem?_append_right (by simp [hl])];simp [hl]
 have hff : FF K (A.under (.builtin "type.__call__" ⟨[.ref C], []⟩)) (ρ ++ [dx] ++ [x]) h' := fo.ff.step g.st
 refine wpAny_mono (hcall C [] fi _ _ .none σ' h1 (ρ++[dx]++[x]) ⟨h',gg,dr,t,os⟩ [.ref x] g.hr (.cons (.obj hxr) .nil) hff) (fun r s2 hq=>?_) fun u_ v_ f=>f
 revert hq;refine rEA fun ρ2 g2 rv=>?_
 obtain rfl:=rv.noneI rfl
 exact ⟨rfl,ρ2,g.trans g2,.obj (pre_get g2.st.pre hxr)⟩
end
end Mini.Internal
namespace Mini.Internal
open PySem PyProof.Rows PySem.SeqAt PySem.W
variable {ρ ρ' ρ1:List Addr}{σ σ' σ1:H}{s s' s1:Shared}{h h':Heap}{ℓ ℓ':L}
noncomputable def Fly (K:Kx) (X ρ:List Addr) (s:Shared) (ρ':List Addr) (σ':H) (outer:List Env) (cv:Value) (P:Heap→Prop) (ev:Value) (h:Heap):Prop :=
 ∃G B t e,ev=.ref e∧P G∧HR K ρ' σ' G∧StepX X ρ s ρ' { s with heap:=G }∧(∀b o,G.get? b=some o→¬ dy o→B.get? b=some o)∧(∀b o,K.h0.get? b=some o→B.get? b=some o)∧G.UpToSlots h∧Heap.FlyingW B outer e cv (.ref t) h∧NoCtx h e
section
variable {K:Kx}{A:Around}
theorem FF.mem {l:List Env} (x:FF K A ρ h) (hf:A.frames=some l) {b:Addr} (hb:b∈l.filterMap (·.frame)):∃o,h.get? b=some o∧dy o∧K.h0.get? b=none:=by
 refine rEA (fun env he hfr=>?_) (List.mem_filterMap.mp hb)
 refine rAEEAAAA (fun u0_ L o h2 u4_ h4 h5 h6=>?_) (x l hf env he)
 rw [hfr] at h2;obtain rfl:=Option.some.inj h2
 exact ⟨o,h5,h6,h4⟩
theorem ff_fun :∀{l:List Env},(∀env∈l,env.scope.kind≠.module∧∃L o,env.frame=some L∧L ∉ ρ∧K.h0.get? L=none∧h.get? L=some o∧dy o)→h.FunFrames K.h0 l
 | [],_=>trivial
 | env::l,x=>by
  refine rAEEAAAAEE (fun h1 L o h2 h3 h4 h5 es ep h6=>?_) (x env List.mem_cons_self)
  exact ⟨h1,⟨L,o,h2,h4,h5,fun vs hv=>by rw [h6] at hv;cases hv⟩,ff_fun fun e he=>x e (List.mem_cons_of_mem _ he)⟩
theorem fly_first {X:List Addr} {G : Heap} {env : Env} {outer : List Env} {e : Addr} {cv : Value} {args : List Value} {P : Heap → Prop} {E : Value → Shared → Prop} {Q : Unit → Shared → Prop} (hfr : A.frames = some (env :: outer)) (ff : FF K A ρ' G)
  (hr:HR K ρ' σ' G) (hP:P G) (st:StepX X ρ s ρ' { s with heap:=G }) (hx:Heap.MadeExcOf G s1.heap e cv args) (hQ:∀h',Fly K X ρ s ρ' σ' outer cv P (.ref e) h'→Q () { s1 with heap:=h' }):wpAny K.M A (leaving env (.ref e)) Q E s1:=by
 refine rAEEA (fun u0_ L u2_ hf u4_=>?_) (ff _ hfr env List.mem_cons_self)
 have hin:∀v∈(env::outer),∀b,v.frame=some b→b∈(env::outer).filterMap (·.frame):=fun v hv b hb=>List.mem_filterMap.mpr ⟨v,hv,hb⟩
 have nc:NoCtx s1.heap e:=by
  refine byC fun hX=>?_;obtain ⟨t,e1,_⟩:=hx.there;refine hX ?_;clear hX
  exact ⟨_,_,e1,rfl,rfl⟩
 refine wpAny_mono (Safe.any (safe_leaving env (.ref e)) (e:=e) (Q:=fun u_ s'=>∃h' t,s' = { s1 with heap:=h' }∧Heap.FlyingW (hideAll G ((env::outer).filterMap (·.frame))) outer e cv (.ref t) h'∧s1.heap.UpToSlots h') (E:=E) (wpAny_leaves_madeW (base:=hideAll G ((env::outer).filterMap (·.frame))) hfr hf (fun b o q=>of_hideAll _ q) (funFrames_hide (ff_fun (ff _ hfr)) hin) hx fun h' t f1 f2 f3 f4=>⟨h',t,rfl,f1,f4⟩) nc) (fun u_ s' hq=>?_) fun u_ v_ h=>h.1
 refine byC fun hX=>?_;obtain ⟨⟨h',t,rfl,f1,f4⟩,hn⟩:=hq;refine hX ?_;clear hX
 refine hQ h' ⟨G,_,t,e,rfl,hP,hr,st,fun b o q hc=>hideAll_get _ q fun hm=>?_,fun b o q=>hideAll_get _ (hr.keep b o q) fun hm=>?_,(Heap.UpToSlots.of_keeps hx.keeps).trans f4,f1,hn⟩
 ·refine rEAA (fun o' q' hc' u3_=>?_) (ff.mem hfr hm)
  rw [q] at q';obtain rfl:=Option.some.inj q';exact hc hc'
 ·refine rEAA (fun o' u1_ u2_ q'=>?_) (ff.mem hfr hm)
  rw [q] at q';exact ns q'
theorem fly_next {X:List Addr} {env : Env} {outer : List Env} {ev : Value} {L : Addr} {cv : Value} {P : Heap → Prop} {E : Value → Shared → Prop} {Q : Unit → Shared → Prop} (hfr : A.frames = some (env :: outer)) (hf : env.frame = some L)
  (fl:Fly K X ρ s ρ' σ' (env::outer) cv P ev s1.heap) (hQ:∀h',Fly K X ρ s ρ' σ' outer cv P ev h'→Q () { s1 with heap:=h' }):wpAny K.M A (leaving env ev) Q E s1:=by
 refine byC fun hX=>?_;revert fl;refine rEEEEAAAAAAA fun G B t e hO4 hP hr st hB hB0 hu fw=>?_;obtain rfl:=hO4;refine hX ?_;clear hX
 refine wpAny_mono (Safe.any (safe_leaving env (.ref e)) (e:=e) (Q:=fun u_ s'=>∃h',s' = { s1 with heap:=h' }∧Heap.FlyingW B outer e cv (.ref t) h'∧s1.heap.UpToSlots h') (E:=E) (wpAny_leaves_onW hfr hf fw.1 fun h' f1 f2=>⟨h',rfl,f1,f2⟩) fw.2) (fun u_ s' hq=>?_) fun u_ v_ h=>h.1
 refine byC fun hX=>?_;obtain ⟨⟨h',rfl,f1,f2⟩,hn⟩:=hq;refine hX ?_;clear hX
 exact hQ h' ⟨G,B,t,e,rfl,hP,hr,st,hB,hB0,hu.trans f2,f1,hn⟩
theorem Fly.map {X Y:List Addr}{outer:List Env}{ev cv:Value}{P P':Heap→Prop} (fl:Fly K X ρ1 s1 ρ' σ' outer cv P ev h) (hs:∀G,HR K ρ' σ' G→P G→StepX X ρ1 s1 ρ' { s1 with heap:=G }→StepX Y ρ s ρ' { s with heap:=G }∧P' G):Fly K Y ρ s ρ' σ' outer cv P' ev h:=by
 revert fl;refine rEEEEAAAA fun G B t e he hP hr st r=>?_
 refine rA (fun h1 h2=>?_) (hs G hr hP st)
 exact ⟨G,B,t,e,he,h2,hr,h1,r⟩
theorem HR.move (x:HR K ρ σ h) (h0:∀b o,K.h0.get? b=some o→h'.get? b=some o) (hk:∀b o,ng h b=some o→ng h' b=some o):HR K ρ σ h' :=
 ⟨h0,x.len,x.nd,x.new,fun n o a h1 h2=>(x.obj n o a h1 h2).move (List.prefix_refl _) (fun b vs e=>ng_ex nfT (hk b _ (ng_of e))) fun o e=>hk a o e⟩
theorem fly_ng {G B:Heap} (hB:∀b o,G.get? b=some o→¬ dy o→B.get? b=some o) (hu:G.UpToSlots h) (fw:B.StaysIn h):∀b o,ng G b=some o→ng h b=some o:=fun b o q=>by
 refine rEA (fun o' q' hO2=>?_) (ng_some q);refine eqE hO2 ?_
 by_cases hc:dy o'
 ·refine rEE (fun es ep hd=>?_) (id hc)
  refine rE (fun sl e=>?_) (hu b o' q' fun vs hv=>by rw [hd] at hv;cases hv)
  rw [ng_of e]
  have hc2:dy { o' with slots:=sl }:=⟨es,ep,hd⟩
  unfold nrm
  rw [if_pos hc,if_pos hc2]
 ·exact ng_of (fw b _ (hB b o' q' hc))
theorem Fly.good {X:List Addr} {outer : List Env} {ev cv : Value} {env : Env} {c : CEnv} (fl : Fly K X ρ s ρ' σ' outer cv (FO K A env c ℓ ρ') ev s1.heap) (hg : s1.gens = s.gens) (ho : s1.os = s.os) :
  HR K ρ' σ' s1.heap∧StepX X ρ s ρ' s1∧FO K A env c ℓ ρ' s1.heap:=by
 revert fl;refine rEEEEAAAAAAA fun G B t e he hP hr st hB hB0 hu fw=>?_
 have hn:=fly_ng hB hu fw.1.1
 have hst:Step ρ' { s with heap:=G } ρ' s1:=⟨List.prefix_refl _,fun b o q u_=>hn b o q,fun u_ h=>.inl h,hg,ho⟩
 exact ⟨hr.move (fun b o q=>fw.1.1 b o (hB0 b o q)) hn,⟨st.pre,fun b o q hb hx=>hn b o (st.fr b o q hb hx),st.fresh,hg,ho⟩,hP.step (s:={ s with heap:=G }) hr hst⟩
end
end Mini.Internal
namespace Mini.Internal
open PySem PyProof.Rows PySem.SeqAt
variable {ρ ρ' ρ1:List Addr}{σ σ' σ1:H}{s s' s1:Shared}{h h':Heap}{ℓ ℓ':L}
noncomputable def SortOK (K:Kx) (A:Around):Prop :=
 ∀(σ σ':H) (vs:List V) (v:V),bltV .sorted vs σ=some (v,σ')→∀(ρ:List Addr) (s:Shared) (cas:List Value),HR K ρ σ s.heap→RVs K ρ s.heap vs cas→TR K A (call (bltVal .sorted) cas) ρ s σ' fun ρ' cv s'=>RV K ρ' s'.heap v cv
structure Hy (K:Kx) (A:Around) (cl:Cl) (T:Tabs):Prop where
 G:GK K T
 ty:TyOK K
 hu:A.units + 16 < cLine
 on : T.loops = true → A.handled = none ∧ CallOK K A cl ∧ ∀ C vs, CallOK K (A.under (.builtin "type.__call__" ⟨.ref C :: vs, []⟩)) cl
 sort:(∃x,T.blts.lookup x=some .sorted)→SortOK K A
 wk:WK K T cl.pg
 qb:T.loops=false→∀x b,T.blts.lookup x=some b→b=.isinstance∨b=.len
 hd:T.loops=false→A.handled=none∨HD K A
theorem folded_of {T:Tabs}{c:CEnv}{e:Expr}{a:Ex} (h:cE T c e=some a) (env:Env) (v:Value):foldedSetIterable e env v=pure v:=by
 cases e with
 | Set _ _=>exact nn h
 | _=>rfl
theorem folded_R {T:Tabs}{c:CEnv}{e:Expr}{it:It} (h:cR T c e=some it) (env:Env) (v:Value):foldedSetIterable e env v=pure v:=by
 cases e with
 | Call _ _ _ _=>rfl
 | _=>exact nn h
theorem marks_of {T:Tabs}{c:CEnv}{e:Expr}{a:Ex} (h:cE T c e=some a) (op:CmpOp):behindInMarks op e=false:=by
 cases e with
 | Set _ _=>exact nn h
 | _=>rfl
theorem ite_none {P:Prop} [Decidable P] {α:Type}{x:Option α}{a:α} (h:(if P then .none else x)=some a):¬ P∧x=some a:=by
 by_cases hp:P
 ·rw [if_pos hp] at h;exact nn h
 ·rw [if_neg hp] at h;exact ⟨hp,h⟩
theorem cCh_inv {T : Tabs} {c : CEnv} {ops : List CmpOp} {e : Expr} {es : List Expr} {r : Ch} (h : cCh T c ops (e :: es) = some r) :
  ∃op a,cE T c e=some a∧((es=[]∧ops=[op]∧r=.one (cCop op) a)∨∃op' ops' e' es' r',es=e'::es'∧ops=op::op'::ops'∧cCh T c (op'::ops') (e'::es')=some r'∧r=.more (cCop op) a r'):=by
 cases ops with
 | nil=>exact nn h
 | cons op ops=>
  refine bind_e ((show (cE T c e).bind _=some r from h)) fun a ha h1=>?_
  refine ⟨op,a,ha,?_⟩
  cases es with
  | nil=>
   left
   refine ite_e ((show (if ops.isEmpty then some (Ch.one (cCop op) a) else .none)=some r from h1)) fun h2 h3=>?_
   refine siE h3 ?_
   exact ⟨rfl,by rw [List.isEmpty_iff.mp h2],rfl⟩
  | cons e' es'=>
   right
   refine mapn_e ((show (cCh T c ops (e'::es')).map _=some r from h1)) fun r' h2 h3=>?_
   cases ops with
   | nil=>exact nn h2
   | cons op' ops'=>exact ⟨op',ops',e',es',r',rfl,rfl,h2,h3.symm⟩
theorem marked_of {T:Tabs}{c:CEnv}{env:Env}:∀{es:List Expr}{ops:List CmpOp}{r:Ch},cCh T c ops es=some r→markedEach ops es (evalEach es env)=evalEach es env
 | [],ops,r,h=>by cases ops <;> exact nn h
 | e::es,ops,r,h=>by
  have again:=@marked_of T c env es
  refine rEEA (fun op a ha h1=>?_) (cCh_inv h)
  rcases h1 with ⟨rfl,rfl,rfl⟩ | ⟨op',ops',e',es',r',rfl,rfl,h2,rfl⟩
  ·show [markedBehindIn op e (eval e env)]=[eval e env]
   rw [markedBehindIn_of_false (marks_of ha op)]
  ·have:=again h2
   show eval e env::markedEach (op'::ops') (e'::es') (evalEach (e'::es') env)=_
   rw [this];rfl
theorem nameIs_inv {e:Expr}{x:Str} (h:nameIs e=some x):∃p,e=.Name x p:=by
 cases e with
 | Name y p=>refine siE h ?_;exact ⟨p,rfl⟩
 | _=>exact nn h
theorem iter_inv {T:Tabs}{c:CEnv}{e:Expr}{it:It} (h:(cR T c e).elim ((cE T c e).map .ex) some=some it):cR T c e=some it∨∃a,cE T c e=some a∧it=.ex a:=by
 cases hR:cR T c e with
 | some it'=>rw [hR] at h;exact .inl h
 | none=>
  rw [hR] at h
  refine mapn_e ((show (cE T c e).map It.ex=some it from h)) fun a ha e=>?_
  exact .inr ⟨a,ha,e.symm⟩
theorem cGen_inv {T : Tabs} {sc : Scope} {c : CEnv} {tg iter : Expr} {fs : List Expr} {async : Int} {gs : List Comprehension} {g : Nat × It × Es} (h : cGen T sc c (⟨tg, iter, fs, async⟩ :: gs) = some g) :
  ∃y px,tg=.Name y px∧gs=[]∧async=0∧(compC c sc).names.lookup y=some .local∧cVar (compC c sc) y=some g.1∧cEs T (compC c sc) fs=some g.2.2∧((T.loops=true∧(cR T c iter=some g.2.1∨∃a,cE T c iter=some a∧g.2.1=.ex a))∨(T.loops=false∧∃a,cE T c iter=some a∧g.2.1=.exL a)):=by
 refine ite_e ((show (if gs.isEmpty∧async=0 then _ else Option.none)=some g from h)) fun h1 h2=>?_
 refine bind_e (h2) fun x hx h3=>?_
 refine bind_e (h3) fun i hi h4=>?_
 refine ite_e (h4) fun h5 h6=>?_
 refine bind_e (h6) fun it hit h7=>?_
 refine rEA (fun fs' hfs hO2=>?_) (Option.map_eq_some_iff.mp h7);refine eqE hO2 ?_
 refine rE (fun p e=>?_) (nameIs_inv hx)
 refine ⟨x,p,e,List.isEmpty_iff.mp h1.1,h1.2,h5,hi,hfs,?_⟩
 cases hlo:T.loops with
 | true=>rw [hlo,if_pos rfl] at hit;exact .inl ⟨rfl,iter_inv hit⟩
 | false=>
  rw [hlo,if_neg (by decide)] at hit
  refine mapn_e (hit) fun a ha e=>?_
  exact .inr ⟨rfl,a,ha,e.symm⟩
section
variable {K:Kx}{A:Around}{cl:Cl}{T:Tabs}
theorem both {e:Expr}{c:CEnv}{env:Env}{a:Ex} (h:PE K A env c cl e a) (hw:∀w,isTrue e env w=(do let v ← w;standAt e.pos;holding [v] (truthy v))):PE K A env c cl e a∧PT K A env c cl e a:=⟨h,pt_plain h hw⟩
theorem cCall_inv {T : Tabs} {c : CEnv} {f : Str} {as : Es} {a : Ex} (h : cCall T c f as = some a) : ((isGlob c f && T.loops) = true ∧ (match T.fns.lookup f with
  | some n=>some (.call n as)
  | .none=>match T.blts.lookup f with
   | some b=>some (.blt b as)
   | .none=>match T.cls.lookup f with
    | some n=>if as.isNil then some (.new n .nil) else Option.none
    | .none=>.none)=some a)∨(isGlob c f=true∧T.loops=false∧∃b,T.blts.lookup f=some b∧a=.blt b as):=by
 unfold cCall at h
 by_cases h1:(isGlob c f && T.loops)=true
 ·rw [if_pos h1] at h;exact .inl ⟨h1,h⟩
 ·rw [if_neg h1] at h
  refine ite_e (h) fun h2 h3=>?_
  refine mapn_e (h3) fun b hb e=>?_
  rw [Bool.and_eq_true] at h2
  exact .inr ⟨h2.1,by simpa using h2.2,b,hb,e.symm⟩
theorem s_name_call (hy:Hy K A cl T) {f:Str}{q p:Pos}{es:List Expr}{as:Es}{c:CEnv}{env:Env}{a:Ex} (h:cCall T c f as=some a) (hc:cEs T c es=some as) (ih:PEs K A env c cl es as):PE K A env c cl (.Call (.Name f q) es [] p) a:=by
 have h:=cCall_inv h
 rcases h with ⟨hg,h1⟩ | ⟨hg,hlo,b,hb,h1⟩
 rotate_left
 ·subst h1
  have hq:=hy.qb hlo f b hb
  exact pe_blt hy.G hy.ty (fun h1 h2=>(hq.elim h1 h2).elim) (fun e=>by subst e;rcases hq with h | h <;> cases h) hg hb hc ih
 rw [Bool.and_eq_true] at hg
 revert hg;refine rA fun hg hlo=>?_
 cases hn:T.fns.lookup f with
 | some n=>rw [hn] at h1;refine siE h1 ?_;exact pe_call hy.G (hy.on hlo).2.1 hg hn hc ih
 | none=>
  rw [hn] at h1
  cases hb:T.blts.lookup f with
  | some b=>rw [hb] at h1;refine siE h1 ?_;exact pe_blt hy.G hy.ty (fun u_ v_=>(hy.on hlo).1) (fun e=>by subst e;exact hy.sort ⟨_,hb⟩) hg hb hc ih
  | none=>
   rw [hb] at h1
   cases hk:T.cls.lookup f with
   | none=>rw [hk] at h1;exact nn h1
   | some n=>
    rw [hk] at h1
    refine ite_e ((show (if as.isNil=true then some (Ex.new n .nil) else .none)=some a from h1)) fun h2 h3=>?_
    refine siE h3 ?_
    cases as with
    | nil=>
     cases es with
     | nil=>exact pe_new hy.G hy.wk hg hk (hy.on hlo).2.2
     | cons e es=>refine rEEAA (fun u0_ u1_ u2_ u3_ h=>?_) (cEs_cons hc);exact Bool.noConfusion (show true=false from congrArg Es.isNil h)
    | cons _ _=>exact ft h2
theorem s_meth (hy : Hy K A cl T) {o : Expr} {m : Str} {q p : Pos} {es : List Expr} {as : Es} {c : CEnv} {env : Env} {a x : Ex} (h : cMeth T m x as = some a) (hl : (q.endLine == p.line) = true) (hcall : isCall o = false) (hlen : es.length < 20) (hc : cEs T c es = some as) (io : PE K A env c cl o x)
  (ih:PEs K A env c cl es as):PE K A env c cl (.Call (.Attribute o m q) es [] p) a:=by
 unfold cMeth at h
 by_cases h1:(m == sAppend)=true
 ·rw [if_pos h1] at h;refine siE h ?_;obtain rfl:=beq_iff_eq.mp h1;exact pe_mth (mm:=.append) hl hcall hlen hc io ih
 ·rw [if_neg h1] at h
  by_cases h2:(m == sPop)=true
  ·rw [if_pos h2] at h;refine siE h ?_;obtain rfl:=beq_iff_eq.mp h2;exact pe_mth (mm:=.pop) hl hcall hlen hc io ih
  ·rw [if_neg h2] at h
   by_cases h3:(m == sIndex)=true
   ·rw [if_pos h3] at h;refine siE h ?_;obtain rfl:=beq_iff_eq.mp h3;exact pe_mth (mm:=.index) hl hcall hlen hc io ih
   ·rw [if_neg h3] at h
    refine ite_e (h) fun hlo h=>?_
    refine map_e (h) fun k hk=>?_
    exact pe_ucall hy.wk (hy.on hlo).2.1 hk hl hcall hlen hc io ih
theorem exL_inv {a:Ex}{src:Src} (h:evalIt cl (.exL a) ℓ σ=some (.ok src,σ')):evalIt cl (.ex a) ℓ σ=some (.ok src,σ')∧¬ src.keep []:=by
 refine bok_e ((show bok (evalE cl a ℓ σ) _=_ from h)) fun x σ1 h1 h2=>?_
 refine bind_e (h2) fun n hn h3=>?_
 refine bind_e (h3) fun l hl h4=>?_
 have hx:=objNo_inv hn
 rw [hx] at hl h1
 have hl:=lst_inv hl
 clear h3 h2 h
 refine byC fun hX=>?_;obtain ⟨rfl,rfl⟩:=okJ h4;refine hX ?_;clear hX
 refine ⟨?_,fun hk=>?_⟩
 ·show bok (evalE cl a ℓ σ) _=_
  rw [h1]
  show (match σ1[n]? with | some (O.list l)=>some (R.ok (Src.mk l fun σ'=>σ'[n]? = some (O.list l)),σ1) | _=>Option.none)=_
  rw [hl]
 ·exact nn (show Option.none=some (O.list l) from hk)
theorem pi_exL {e:Expr}{a:Ex}{c:CEnv}{env:Env} (h:PE K A env c cl e a):PI K A env c cl e (.exL a):=fun ℓ σ src σ' he=>pi_ex h ℓ σ src σ' (exL_inv he).1
theorem s_rng (hy:Hy K A cl T) {f:Str}{q p:Pos}{es:List Expr}{as:Es}{c:CEnv}{env:Env}{it:It} (h:cRng f as=some it) (hg:isGlob c f=true) (hc:cEs T c es=some as) (ih:PEs K A env c cl es as):PI K A env c cl (.Call (.Name f q) es [] p) it:=by
 cases as with
 | nil=>exact nn h
 | cons a r=>
  cases r with
  | nil=>
   refine ite_e ((show (if f == sRange then some (It.rng1 a) else .none)=some it from h)) fun h1 h2=>?_
   refine siE h2 ?_
   exact pi_rng1 hy.G hg h1 hc ih
  | cons _ _=>exact nn h
mutual
theorem sE (hy:Hy K A cl T):∀(e:Expr) (c:CEnv) (env:Env) (a:Ex),cE T c e=some a→PE K A env c cl e a∧PT K A env c cl e a
 | .Constant k n p,c,env,a,h=>by
  refine rEA (fun v hv hO2=>?_) (Option.map_eq_some_iff.mp (show (cConst k).map _=some a from h));refine eqE hO2 ?_
  exact both (pe_const hv) fun u_=>rfl
 | .Name x p,c,env,a,h=>both (pe_name hy.G (show cName T c x=some a from h)) fun u_=>rfl
 | .BinOp l op r p,c,env,a,h=>by
  refine bind_e ((show (cE T c l).bind _=some a from h)) fun x h1 h2=>?_
  refine bind_e (h2) fun o h3 h4=>?_
  refine rEA (fun y h5 hO2=>?_) (Option.map_eq_some_iff.mp h4);refine eqE hO2 ?_
  exact both (pe_bin h3 (sE hy l c env x h1).1 (sE hy r c env y h5).1) fun u_=>rfl
 | .UnaryOp op x p,c,env,a,h=>by
  refine bind_e ((show (cE T c x).bind _=some a from h)) fun y h1 h2=>?_
  have ih:=sE hy x c env y h1
  cases op with
  | USub=>refine siE h2 ?_;exact both (pe_neg ih.1) fun u_=>rfl
  | Not=>refine siE h2 ?_;exact ⟨pe_not ih.1,pt_not ih.2⟩
  | _=>exact nn h2
 | .BoolOp op vs p,c,env,a,h=>by
  have ih:=sB hy op vs c env a (ite_some (show (if 2≤vs.length then cB T op c vs else .none)=some a from h)).2
  exact ⟨fun ℓ σ v σ' he ρ s hr fo=>ih.1 p ℓ σ v σ' he ρ s hr fo,fun ℓ σ v σ' b he hb ρ s hr fo=>ih.2 ℓ σ v σ' b he hb ρ s hr fo⟩
 | .Compare l ops cs p,c,env,a,h=>by
  refine bind_e ((show (cE T c l).bind _=some a from h)) fun x h1 h2=>?_
  refine rEA (fun r h3 hO2=>?_) (Option.map_eq_some_iff.mp h2);refine eqE hO2 ?_
  have ih:=(sE hy l c env x h1).1
  have ihc:=sCh hy cs ops c env r h3
  exact ⟨pe_cmp (marked_of h3) ih ihc,pt_cmp (marked_of h3) ih ihc⟩
 | .IfExp t b o p,c,env,a,h=>by
  refine bind_e ((show (cE T c t).bind _=some a from h)) fun x h1 h2=>?_
  refine bind_e (h2) fun y h3 h4=>?_
  refine rEA (fun z h5 hO2=>?_) (Option.map_eq_some_iff.mp h4);refine eqE hO2 ?_
  have i1:=sE hy t c env x h1
  have i2:=sE hy b c env y h3
  have i3:=sE hy o c env z h5
  exact ⟨pe_ife i1.2 i2.1 i3.1,pt_ife i1.2 i2.2 i3.2⟩
 | .Tuple es k p,c,env,a,h=>by
  refine rEA (fun as h1 hO2=>?_) (Option.map_eq_some_iff.mp (show (cEs T c es).map _=some a from h));refine eqE hO2 ?_
  exact both (pe_tup (sEs hy es c env as h1)) fun u_=>rfl
 | .List es p,c,env,a,h=>by
  refine rEA (fun as h1 hO2=>?_) (Option.map_eq_some_iff.mp (show (cEs T c es).map _=some a from h));refine eqE hO2 ?_
  exact both (pe_lst (sEs hy es c env as h1)) fun u_=>rfl
 | .Subscript v i p,c,env,a,h=>by
  refine bind_e ((show (cE T c v).bind _=some a from h)) fun x h1 h2=>?_
  have iv:=(sE hy v c env x h1).1
  cases hS:cS T c i with
  | none=>
   rw [hS] at h2
   refine rEA (fun y h3 hO2=>?_) (Option.map_eq_some_iff.mp (show (cE T c i).map _=some a from h2));refine eqE hO2 ?_
   exact both (pe_idx iv (sE hy i c env y h3).1) fun u_=>rfl
  | some q=>
   rw [hS] at h2
   refine siE h2 ?_
   exact both (sSl hy i c env q hS v p x iv) fun u_=>rfl
 | .ListComp elt gens sc p,c,env,a,h=>by
  refine bind_e ((show (cGen T sc c gens).bind _=some a from h)) fun g h1 h2=>?_
  refine bind_e (h2) fun e h3 h4=>?_
  refine ite_e (h4) fun hok h5=>?_
  refine siE h5 ?_
  refine byC fun hX=>?_;obtain ⟨y,px,iter,fs,rfl,hloc,hv,hI,hfold,hF,hHH⟩:=sG hy sc gens c env g h1;refine hX ?_;clear hX
  exact both (pe_comp hHH (compOK_of hok) hfold hv hloc hI (fun cenv=>(sE hy elt _ cenv e h3).1) hF) fun u_=>rfl
 | .Call f as ks p,c,env,a,h=>by
  refine ite_e ((show (if ks.isEmpty∧as.length < 20 then _ else Option.none)=some a from h)) fun h0 h1=>?_
  refine bind_e (h1) fun xs h2 h3=>?_
  refine eqS (List.isEmpty_iff.mp h0.1) ?_
  have ihs:=sEs hy as c env xs h2
  cases f with
  | Name g q=>exact both (s_name_call hy h3 h2 ihs) fun u_=>rfl
  | Attribute o m q=>
   refine bind_e ((show (cE T c o).bind _=some a from h3)) fun x h4 h5=>?_
   refine ite_e (h5) fun h6 h7=>?_
   rw [Bool.and_eq_true,Bool.not_eq_true'] at h6
   exact both (s_meth hy h7 h6.1 h6.2 h0.2 h2 (sE hy o c env x h4).1 ihs) fun u_=>rfl
  | _=>exact nn h3
 | .Attribute o m p,c,env,a,h=>by
  refine bind_e ((show (cE T c o).bind _=some a from h)) fun x h1 h2=>?_
  refine bind_e (h2) fun k hk h3=>?_
  refine ite_e (h3) fun h4 h5=>?_
  refine siE h5 ?_
  exact both (pe_attr hy.wk h4 hk (sE hy o c env x h1).1) fun u_=>rfl
 | .NamedExpr _ _ _,c,env,a,h=>by exact nn h
 | .Lambda _ _ _ _,c,env,a,h=>by exact nn h
 | .Dict _ _ _,c,env,a,h=>by exact nn h
 | .Set _ _ _,c,env,a,h=>by exact nn h
 | .SetComp _ _ _ _,c,env,a,h=>by exact nn h
 | .DictComp _ _ _ _ _,c,env,a,h=>by exact nn h
 | .GeneratorExp _ _ _ _,c,env,a,h=>by exact nn h
 | .Await _ _,c,env,a,h=>by exact nn h
 | .Yield _ _,c,env,a,h=>by exact nn h
 | .YieldFrom _ _,c,env,a,h=>by exact nn h
 | .FormattedValue _ _ _ _,c,env,a,h=>by exact nn h
 | .JoinedStr _ _,c,env,a,h=>by exact nn h
 | .Starred _ _,c,env,a,h=>by exact nn h
 | .Slice _ _ _ _,c,env,a,h=>by exact nn h
theorem sG (hy : Hy K A cl T) (sc : Scope) : ∀ (gens : List Comprehension) (c : CEnv) (env : Env) (g : Nat × It × Es), cGen T sc c gens = some g → ∃ y px iter fs, gens = [⟨.Name y px, iter, fs, 0⟩] ∧ (compC c sc).names.lookup y = some .local ∧ cVar (compC c sc) y = some g.1 ∧
      PI K A env c cl iter g.2.1∧(∀v,foldedSetIterable iter env v=pure v)∧(∀cenv,PF K A cenv (compC c sc) cl fs g.2.2)∧∀ℓ σ src σ',evalIt cl g.2.1 ℓ σ=some (.ok src,σ')→HH K A src
  | [],c,env,g,h=>by exact nn h
  | ⟨tg,iter,fs,async⟩::gs,c,env,g,h=>by
    refine rEEAAAAAA (fun y px e1 e2 e3 hloc hv hfs hor=>?_) (cGen_inv h)
    have hF:=fun cenv=>sFs hy fs _ cenv _ hfs
    have hI:PI K A env c cl iter g.2.1∧(∀v,foldedSetIterable iter env v=pure v)∧∀ℓ σ src σ',evalIt cl g.2.1 ℓ σ=some (.ok src,σ')→HH K A src:=by
      rcases hor with ⟨hlo,hR | ⟨a',hE,e'⟩⟩ | ⟨hlo,a',hE,e'⟩
      · exact ⟨sR hy iter c env _ hR,folded_R hR env,fun u_ v_ w_ x_ y_=>.inl (hy.on hlo).1⟩
      · rw [e'];exact ⟨pi_ex (sE hy iter c env _ hE).1,folded_of hE env,fun u_ v_ w_ x_ y_=>.inl (hy.on hlo).1⟩
      · rw [e'];exact ⟨pi_exL (sE hy iter c env _ hE).1,folded_of hE env,fun ℓ σ src σ' he=>(hy.hd hlo).elim .inl fun h=>.inr ⟨h,(exL_inv he).2⟩⟩
    exact ⟨y,px,iter,fs,by rw [e1,e2,e3],hloc,hv,hI.1,hI.2.1,hF,hI.2.2⟩
theorem sSl (hy:Hy K A cl T):∀(i:Expr) (c:CEnv) (env:Env) (q:Oe×Oe×Oe),cS T c i=some q→∀(v:Expr) (p:Pos) (x:Ex),PE K A env c cl v x→PE K A env c cl (.Subscript v i p) (.slc x q.1 q.2.1 q.2.2)
 | .Slice lo hi st r,c,env,q,h,v,p,x,iv=>by
  refine bind_e ((show (cO T c lo).bind _=some q from h)) fun y h1 h2=>?_
  refine bind_e (h2) fun z h3 h4=>?_
  refine rEA (fun w h5 hO2=>?_) (Option.map_eq_some_iff.mp h4);refine eqE hO2 ?_
  exact pe_slc iv (sO hy lo c env _ h1) (sO hy hi c env _ h3) (sO hy st c env _ h5)
 | .Constant ..,c,env,q,h,v,p,x,iv=>by exact nn h
 | .Name ..,c,env,q,h,v,p,x,iv=>by exact nn h
 | .BinOp ..,c,env,q,h,v,p,x,iv=>by exact nn h
 | .UnaryOp ..,c,env,q,h,v,p,x,iv=>by exact nn h
 | .BoolOp ..,c,env,q,h,v,p,x,iv=>by exact nn h
 | .Compare ..,c,env,q,h,v,p,x,iv=>by exact nn h
 | .IfExp ..,c,env,q,h,v,p,x,iv=>by exact nn h
 | .Tuple ..,c,env,q,h,v,p,x,iv=>by exact nn h
 | .List ..,c,env,q,h,v,p,x,iv=>by exact nn h
 | .Subscript ..,c,env,q,h,v,p,x,iv=>by exact nn h
 | .ListComp ..,c,env,q,h,v,p,x,iv=>by exact nn h
 | .Call ..,c,env,q,h,v,p,x,iv=>by exact nn h
 | .Attribute ..,c,env,q,h,v,p,x,iv=>by exact nn h
 | .NamedExpr ..,c,env,q,h,v,p,x,iv=>by exact nn h
 | .Lambda ..,c,env,q,h,v,p,x,iv=>by exact nn h
 | .Dict ..,c,env,q,h,v,p,x,iv=>by exact nn h
 | .Set ..,c,env,q,h,v,p,x,iv=>by exact nn h
 | .SetComp ..,c,env,q,h,v,p,x,iv=>by exact nn h
 | .DictComp ..,c,env,q,h,v,p,x,iv=>by exact nn h
 | .GeneratorExp ..,c,env,q,h,v,p,x,iv=>by exact nn h
 | .Await ..,c,env,q,h,v,p,x,iv=>by exact nn h
 | .Yield ..,c,env,q,h,v,p,x,iv=>by exact nn h
 | .YieldFrom ..,c,env,q,h,v,p,x,iv=>by exact nn h
 | .FormattedValue ..,c,env,q,h,v,p,x,iv=>by exact nn h
 | .JoinedStr ..,c,env,q,h,v,p,x,iv=>by exact nn h
 | .Starred ..,c,env,q,h,v,p,x,iv=>by exact nn h
theorem sR (hy:Hy K A cl T):∀(e:Expr) (c:CEnv) (env:Env) (it:It),cR T c e=some it→PI K A env c cl e it
 | .Call f as ks p,c,env,it,h=>by
  refine ite_e ((show (if ks.isEmpty then _ else Option.none)=some it from h)) fun h0 h1=>?_
  refine bind_e (h1) fun g h2 h3=>?_
  refine ite_e (h3) fun hg h4=>?_
  refine bind_e (h4) fun xs h5 h6=>?_
  refine eqS (List.isEmpty_iff.mp h0) ?_
  refine rE (fun q hO1=>?_) (nameIs_inv h2);refine eqS hO1 ?_
  exact s_rng hy h6 hg h5 (sEs hy as c env xs h5)
 | .Constant ..,c,env,it,h=>by exact nn h
 | .Name ..,c,env,it,h=>by exact nn h
 | .BinOp ..,c,env,it,h=>by exact nn h
 | .UnaryOp ..,c,env,it,h=>by exact nn h
 | .BoolOp ..,c,env,it,h=>by exact nn h
 | .Compare ..,c,env,it,h=>by exact nn h
 | .IfExp ..,c,env,it,h=>by exact nn h
 | .Tuple ..,c,env,it,h=>by exact nn h
 | .List ..,c,env,it,h=>by exact nn h
 | .Subscript ..,c,env,it,h=>by exact nn h
 | .ListComp ..,c,env,it,h=>by exact nn h
 | .Attribute ..,c,env,it,h=>by exact nn h
 | .NamedExpr ..,c,env,it,h=>by exact nn h
 | .Lambda ..,c,env,it,h=>by exact nn h
 | .Dict ..,c,env,it,h=>by exact nn h
 | .Set ..,c,env,it,h=>by exact nn h
 | .SetComp ..,c,env,it,h=>by exact nn h
 | .DictComp ..,c,env,it,h=>by exact nn h
 | .GeneratorExp ..,c,env,it,h=>by exact nn h
 | .Await ..,c,env,it,h=>by exact nn h
 | .Yield ..,c,env,it,h=>by exact nn h
 | .YieldFrom ..,c,env,it,h=>by exact nn h
 | .FormattedValue ..,c,env,it,h=>by exact nn h
 | .JoinedStr ..,c,env,it,h=>by exact nn h
 | .Starred ..,c,env,it,h=>by exact nn h
 | .Slice ..,c,env,it,h=>by exact nn h
theorem sFs (hy:Hy K A cl T):∀(es:List Expr) (c:CEnv) (env:Env) (as:Es),cEs T c es=some as→PF K A env c cl es as
 | [],c,env,as,h=>by refine siE h ?_;exact pf_nil
 | e::es,c,env,as,h=>by
  refine rEEAA (fun a b h1 h2 hO4=>?_) (cEs_cons h);refine eqS hO4 ?_
  exact pf_cons (sE hy e c env a h1).2 (sFs hy es c env b h2)
theorem sEs (hy:Hy K A cl T):∀(es:List Expr) (c:CEnv) (env:Env) (as:Es),cEs T c es=some as→PEs K A env c cl es as
 | [],c,env,as,h=>by refine siE h ?_;exact pes_nil
 | e::es,c,env,as,h=>by
  refine rEEAA (fun a b h1 h2 hO4=>?_) (cEs_cons h);refine eqS hO4 ?_
  exact pes_cons (star_plain h1 es) (sE hy e c env a h1).1 (sEs hy es c env b h2)
theorem sB (hy:Hy K A cl T) (op:BoolOp):∀(es:List Expr) (c:CEnv) (env:Env) (a:Ex),cB T op c es=some a→PB K A env c cl op es a
 | [],c,env,a,h=>by exact nn h
 | e::es,c,env,a,h=>by
  have again:=sB hy op es
  cases es with
  | nil=>have ih:=sE hy e c env a h;exact pb_one ih.1 ih.2
  | cons e' es=>
   refine bind_e ((show (cE T c e).bind _=some a from h)) fun x h1 h2=>?_
   refine map_e (h2) fun y h3=>?_
   have ih:=sE hy e c env x h1
   exact pb_cons ih.1 ih.2 (again c env y h3)
theorem sCh (hy:Hy K A cl T):∀(es:List Expr) (ops:List CmpOp) (c:CEnv) (env:Env) (r:Ch),cCh T c ops es=some r→PC K A env c cl ops es r
 | [],ops,c,env,r,h=>by cases ops <;> exact nn h
 | e::es,ops,c,env,r,h=>by
  have again:=sCh hy es
  refine rEEA (fun op a ha h1=>?_) (cCh_inv h)
  have ih:=(sE hy e c env a ha).1
  cases es with
  | nil=>
   rcases h1 with ⟨_,rfl,rfl⟩ | ⟨op',ops',e',es',r',h0,_⟩
   ·exact pc_one hy.hu ih
   ·cases h0
  | cons e1 es1=>
   rcases h1 with ⟨h0,_⟩ | ⟨op',ops',e',es',r',h0,rfl,h2,rfl⟩
   ·cases h0
   ·cases h0
    exact pc_more hy.hu ih (again (op'::ops') c env r' h2)
theorem sO (hy:Hy K A cl T):∀(eo:Option Expr) (c:CEnv) (env:Env) (a:Oe),cO T c eo=some a→PO K A env c cl eo a
 | .none,c,env,a,h=>by refine siE h ?_;exact po_no
 | some e,c,env,a,h=>by
  refine map_e ((show (cE T c e).map _=some a from h)) fun x h1=>?_
  exact po_yes (sE hy e c env x h1).1
end
end
end Mini.Internal
namespace Mini.Internal
open PySem PyProof.Rows PySem.SeqAt PySem.W
variable {ρ ρ' ρ1:List Addr}{σ σ' σ1:H}{s s' s1:Shared}{h h':Heap}{ℓ ℓ':L}
section
variable {C:Cl}{ℓ:L}{σ σ1:H}
theorem noX_inv {α:Type}{x:X α}{r:R α} (h:noX x=some (r,σ1)):∃a,r=.ok a∧x=some (.ok a,σ1):=by
 refine bok_e (h) fun a σ2 h1 h2=>?_
 refine pE h2 ?_;exact ⟨a,rfl,h1⟩
theorem callX_ok {e:Ex}{v:V} (h:callX C e ℓ σ=some (.ok v,σ1)):evalE C e ℓ σ=some (.ok v,σ1):=by
 cases e with
 | call f as=>exact h
 | _=>refine rEA (fun a h1 h2=>?_) (noX_inv h);obtain rfl:=oi h1;exact h2
theorem bnd_inv {α β:Type}{x:X α}{f:α→H→X β}{r:R β} (h:bnd x f=some (r,σ')):(∃a σ1,x=some (.ok a,σ1)∧f a σ1=some (r,σ'))∨∃k,x=some (.exc k,σ')∧r=.exc k:=by
 cases x with
 | none=>exact nn h
 | some p=>
  refine byC fun hX=>?_;obtain ⟨q,τ⟩:=p;refine hX ?_;clear hX
  cases q with
  | ok a=>exact .inl ⟨a,τ,rfl,h⟩
  | exc k=>refine pE h ?_;exact .inr ⟨k,rfl,rfl⟩
theorem argsX_ok:∀{as:Es}{ℓ:L}{σ σ1:H}{vs:List V},argsX C as ℓ σ=some (.ok vs,σ1)→evalEs C as ℓ σ=some (.ok vs,σ1)
 | .nil,_,_,_,_,h=>h
 | .cons a as,ℓ,σ,σ1,vs,h=>by
  rcases bnd_inv h with ⟨x,σ2,h1,h2⟩ | ⟨k,_,h2⟩
  ·rcases bnd_inv h2 with ⟨y,σ3,h3,h4⟩ | ⟨k,_,h4⟩
   ·refine okE h4 ?_
    show bok (evalE C a ℓ σ) _=_
    rw [callX_ok h1]
    show bok (evalEs C as ℓ σ2) _=_
    rw [argsX_ok h3];rfl
   ·exact oe h4
  ·exact oe h2
theorem evalX_ok {e:Ex}{v:V} (h:evalX C e ℓ σ=some (.ok v,σ1)):evalE C e ℓ σ=some (.ok v,σ1):=by
 cases e with
 | call f as=>
  rcases bnd_inv h with ⟨x,σ2,h1,h2⟩ | ⟨k,_,h2⟩
  ·show bok (evalEs C as ℓ σ) _=_
   rw [argsX_ok h1];exact h2
  ·exact oe h2
 | ucall m o as=>exact h
 | _=>refine rEA (fun a h1 h2=>?_) (noX_inv h);obtain rfl:=oi h1;exact h2
end
noncomputable def Flies (K:Kx) (A:Around) (ρ:List Addr) (s:Shared) (σ':H) (k:Nat) (ev:Value) (s':Shared):Prop :=
 s'.gens=s.gens∧s'.os=s.os∧∃ρ',∀fs,A.frames=some fs→Fly K [] ρ s ρ' σ' fs (K.tyv k) (fun u_=>True) ev s'.heap
theorem Flies.after {K:Kx}{A:Around}{k:Nat}{ev:Value} (g:Good K ρ s ρ1 σ1 s1) (f:Flies K A ρ1 s1 σ' k ev s'):Flies K A ρ s σ' k ev s':=by
 revert f;refine rAAE fun h1 h2 ρ' h3=>?_
 refine ⟨h1.trans g.st.gens,h2.trans g.st.os,ρ',fun fs hf=>(h3 fs hf).map fun G u_ v_ st=>⟨?_,trivial⟩⟩
 have:=g.st.trans st.nil
 exact ⟨this.pre,fun b o e hb u_=>this.fr b o e hb,this.fresh,rfl,rfl⟩
noncomputable def CallX (K:Kx) (A:Around) (cl:Cl):Prop :=
 ∀f vs σ k σ',cl.call f vs σ=some (.exc k,σ')→∀ρ s cvs,HR K ρ σ s.heap→RVs K ρ s.heap vs cvs→FF K A ρ s.heap→wpAny K.M A (call (.ref (K.fna f)) cvs) (fun u_ v_=>False) (fun ev s'=>Flies K A ρ s σ' k ev s') s
noncomputable def PX (K:Kx) (A:Around) (env:Env) (c:CEnv) (cl:Cl) (e:Expr) (a:Ex):Prop :=
 ∀ℓ σ r σ',evalX cl a ℓ σ=some (r,σ')→∀ρ s,HR K ρ σ s.heap→FO K A env c ℓ ρ s.heap→
  wpAny K.M A (eval e env) (fun cv s'=>∃v ρ',r=.ok v∧Good K ρ s ρ' σ' s'∧RV K ρ' s'.heap v cv) (fun ev s'=>∃k,r=.exc k∧Flies K A ρ s σ' k ev s') s
noncomputable def Ex.fnOf:Ex→Option (Nat×Es)
 | .call f as=>some (f,as)
 | _=>.none
noncomputable def Ex.mtOf:Ex→Option (Nat×Ex×Es)
 | .ucall m o as=>some (m,o,as)
 | _=>.none
section
variable {K:Kx}{A:Around}{env:Env}{c:CEnv}{cl:Cl}{T:Tabs}
theorem cE_form {e:Expr}{a:Ex} (h:cE T c e=some a) (ha:a.fnOf≠.none∨a.mtOf≠.none):∃f es ks p xs,e=.Call f es ks p∧ks=[]∧es.length < 20∧cEs T c es=some xs∧cF T xs p c f=some a:=by
 have no:∀{b:Ex},a=b→b.fnOf=.none→b.mtOf=.none→False:=by
  rintro b rfl h1 h2
  rcases ha with h | h
  ·exact h h1
  ·exact h h2
 cases e with
 | Call f es ks p=>
  refine ite_e ((show (if ks.isEmpty∧es.length < 20 then _ else Option.none)=some a from h)) fun h0 h1=>?_
  refine bind_e (h1) fun xs h2 h3=>?_
  exact ⟨f,es,ks,p,xs,rfl,List.isEmpty_iff.mp h0.1,h0.2,h2,h3⟩
 | Constant k n p=>obtain ⟨v,_,e⟩:=Option.map_eq_some_iff.mp (show (cConst k).map _=some a from h);exact (no e.symm rfl rfl).elim
 | Name x p=>
  have h:cName T c x=some a:=h
  unfold cName at h
  split at h
  ·refine byC fun hX=>?_;obtain ⟨v,_,e⟩:=Option.map_eq_some_iff.mp h;refine hX ?_;clear hX;exact (no e.symm rfl rfl).elim
  ·refine byC fun hX=>?_;obtain ⟨v,_,e⟩:=Option.map_eq_some_iff.mp h;refine hX ?_;clear hX;exact (no e.symm rfl rfl).elim
  ·split at h
   ·exact nn h
   ·refine byC fun hX=>?_;obtain ⟨v,_,e⟩:=Option.map_eq_some_iff.mp h;refine hX ?_;clear hX;exact (no e.symm rfl rfl).elim
  ·exact nn h
 | BinOp l op r p=>
  refine bind_e ((show (cE T c l).bind _=some a from h)) fun x h1 h2=>?_
  refine bind_e (h2) fun o h3 h4=>?_
  refine mapn_e (h4) fun y h5 e=>?_
  exact (no e.symm rfl rfl).elim
 | UnaryOp op x p=>
  refine bind_e ((show (cE T c x).bind _=some a from h)) fun y h1 h2=>?_
  cases op with
  | USub=>exact (no (Option.some.inj h2).symm rfl rfl).elim
  | Not=>exact (no (Option.some.inj h2).symm rfl rfl).elim
  | _=>exact nn h2
 | BoolOp op vs p=>
  refine ite_e ((show (if 2≤vs.length then cB T op c vs else .none)=some a from h)) fun hl h1=>?_
  cases vs with
  | nil=>exact nn h1
  | cons e es=>
   cases es with
   | nil=>exact absurd hl (by simp)
   | cons e' es=>
    refine bind_e ((show (cE T c e).bind _=some a from h1)) fun x h1 h2=>?_
    refine mapn_e (h2) fun y h3 e=>?_
    cases op <;> exact (no e.symm rfl rfl).elim
 | Compare l ops cs p=>
  refine bind_e ((show (cE T c l).bind _=some a from h)) fun x h1 h2=>?_
  refine mapn_e (h2) fun r h3 e=>?_
  exact (no e.symm rfl rfl).elim
 | IfExp t b o p=>
  refine bind_e ((show (cE T c t).bind _=some a from h)) fun x h1 h2=>?_
  refine bind_e (h2) fun y h3 h4=>?_
  refine mapn_e (h4) fun z h5 e=>?_
  exact (no e.symm rfl rfl).elim
 | Tuple es k p=>obtain ⟨as,h1,e⟩:=Option.map_eq_some_iff.mp (show (cEs T c es).map _=some a from h);exact (no e.symm rfl rfl).elim
 | List es p=>obtain ⟨as,h1,e⟩:=Option.map_eq_some_iff.mp (show (cEs T c es).map _=some a from h);exact (no e.symm rfl rfl).elim
 | Subscript v i p=>
  refine bind_e ((show (cE T c v).bind _=some a from h)) fun x h1 h2=>?_
  cases hS:cS T c i with
  | none=>
   rw [hS] at h2
   refine mapn_e ((show (cE T c i).map _=some a from h2)) fun y h3 e=>?_
   exact (no e.symm rfl rfl).elim
  | some q=>rw [hS] at h2;exact (no (Option.some.inj h2).symm rfl rfl).elim
 | ListComp elt gens sc p=>
  refine bind_e ((show (cGen T sc c gens).bind _=some a from h)) fun g h1 h2=>?_
  refine bind_e (h2) fun e h3 h4=>?_
  refine ite_e (h4) fun hok h5=>?_
  exact (no (Option.some.inj h5).symm rfl rfl).elim
 | Attribute o m p=>
  refine bind_e ((show (cE T c o).bind _=some a from h)) fun x h1 h2=>?_
  refine bind_e (h2) fun k hk h3=>?_
  refine ite_e (h3) fun h4 h5=>?_
  exact (no (Option.some.inj h5).symm rfl rfl).elim
 | _=>exact nn h
theorem cE_call {e:Expr}{n:Nat}{as:Es} (h:cE T c e=some (.call n as)):∃f q es p,e=.Call (.Name f q) es [] p∧isGlob c f=true∧T.loops=true∧T.fns.lookup f=some n∧cEs T c es=some as:=by
 refine byC fun hX=>?_;refine rEEEEEAAAA (fun f es ks p xs hO5 hO6 hl h2 h3=>?_) (cE_form h (.inl (by intro h;exact ns h)));obtain rfl:=hO5;obtain rfl:=hO6;refine hX ?_;clear hX
 cases f with
 | Name g q=>
  rcases cCall_inv h3 with ⟨hg,h1⟩ | ⟨_,_,b,_,e⟩
  rotate_left
  ·exact absurd (congrArg Ex.fnOf e) (by intro h;exact ns h)
  rw [Bool.and_eq_true] at hg
  cases hn:T.fns.lookup g with
  | some m=>
   rw [hn] at h1
   have e:(Ex.call m xs).fnOf=(Ex.call n as).fnOf:=congrArg Ex.fnOf (Option.some.inj h1)
   have e:(m,xs)=(n,as):=Option.some.inj e
   refine piE e ?_
   exact ⟨g,q,es,p,rfl,hg.1,hg.2,hn,h2⟩
  | none=>
   rw [hn] at h1
   cases hb:T.blts.lookup g with
   | some b=>rw [hb] at h1;exact absurd (congrArg Ex.fnOf (Option.some.inj h1)) (by intro h;exact nn h)
   | none=>
    rw [hb] at h1
    cases hk:T.cls.lookup g with
    | none=>rw [hk] at h1;exact nn h1
    | some m=>
     rw [hk] at h1
     refine ite_e ((show (if xs.isNil=true then some (Ex.new m .nil) else .none)=some _ from h1)) fun u0_ h3=>?_
     exact absurd (congrArg Ex.fnOf (Option.some.inj h3)) (by intro h;exact nn h)
 | Attribute o m q=>
  refine bind_e ((show (cE T c o).bind _=some _ from h3)) fun x h4 h5=>?_
  refine ite_e (h5) fun u0_ h=>?_
  have key:∀{b:Ex},b=.call n as→b.fnOf=.none→False:=by rintro b rfl h;exact ns h
  unfold cMeth at h
  split at h
  ·exact (key (Option.some.inj h) rfl).elim
  ·split at h
   ·exact (key (Option.some.inj h) rfl).elim
   ·split at h
    ·exact (key (Option.some.inj h) rfl).elim
    ·refine ite_e (h) fun u0_ h=>?_
     refine mapn_e (h) fun k hk h=>?_
     exact (key h rfl).elim
 | _=>exact nn h3
theorem cE_ucall {e:Expr}{n:Nat}{a:Ex}{as:Es} (h:cE T c e=some (.ucall n a as)):∃o x q es p,e=.Call (.Attribute o x q) es [] p∧(q.endLine == p.line)=true∧isCall o=false∧es.length < 20∧T.loops=true∧T.meths.lookup x=some n∧cE T c o=some a∧cEs T c es=some as:=by
 refine byC fun hX=>?_;refine rEEEEEAAAA (fun f es ks p xs hO5 hO6 hl h2 h3=>?_) (cE_form h (.inr (by intro h;exact ns h)));obtain rfl:=hO5;obtain rfl:=hO6;refine hX ?_;clear hX
 have key:∀{b:Ex},b=.ucall n a as→b.mtOf=.none→False:=by rintro b rfl h;exact ns h
 cases f with
 | Name g q=>
  rcases cCall_inv h3 with ⟨hg,h1⟩ | ⟨_,_,b,_,e⟩
  rotate_left
  ·exact (key e.symm rfl).elim
  cases hn:T.fns.lookup g with
  | some m=>rw [hn] at h1;exact (key (Option.some.inj h1) rfl).elim
  | none=>
   rw [hn] at h1
   cases hb:T.blts.lookup g with
   | some b=>rw [hb] at h1;exact (key (Option.some.inj h1) rfl).elim
   | none=>
    rw [hb] at h1
    cases hk:T.cls.lookup g with
    | none=>rw [hk] at h1;exact nn h1
    | some m=>
     rw [hk] at h1
     refine ite_e ((show (if xs.isNil=true then some (Ex.new m .nil) else .none)=some _ from h1)) fun u0_ h3=>?_
     exact (key (Option.some.inj h3) rfl).elim
 | Attribute o m q=>
  refine bind_e ((show (cE T c o).bind _=some _ from h3)) fun x h4 h5=>?_
  refine ite_e (h5) fun h6 h=>?_
  rw [Bool.and_eq_true,Bool.not_eq_true'] at h6
  unfold cMeth at h
  split at h
  ·exact (key (Option.some.inj h) rfl).elim
  ·split at h
   ·exact (key (Option.some.inj h) rfl).elim
   ·split at h
    ·exact (key (Option.some.inj h) rfl).elim
    ·refine ite_e (h) fun hlo h=>?_
     refine mapn_e (h) fun k hk h=>?_
     have e:(k,x,xs)=(n,a,as):=Option.some.inj (congrArg Ex.mtOf h)
     refine rA (fun e1 e2=>?_) (Prod.mk.inj e)
     refine rA (fun e2 e3=>?_) (Prod.mk.inj e2)
     exact ⟨o,m,q,es,p,rfl,h6.1,h6.2,hl,hlo,e1 ▸ hk,e2 ▸ h4,e3 ▸ h2⟩
 | _=>exact nn h3
theorem call_run (G : GK K T) {f : Str} {p pos : Pos} {es : List Expr} {as : Es} {n : Nat} (hg : isGlob c f = true) (hn : T.fns.lookup f = some n) (hc : cEs T c es = some as) (hr : HR K ρ σ s.heap) (fo : FO K A env c ℓ ρ s.heap)
  {Q:Value→Shared→Prop}{E:Value→Shared→Prop} (h:wpAny K.M A (spliced (es.map fun e=>(false,eval e env))) (fun cvs s1=>(∀b o,K.h0.get? b=some o→s1.heap.get? b=some o)∧wpAny K.M A (call (.ref (K.fna n)) cvs) Q E s1) E s) :
  wpAny K.M A (eval (.Call (.Name f p) es [] pos) env) Q E s:=by
 refine rEEAAAA (fun mg mb hmg hmb u4_ hfn u6_=>?_) G.g
 refine rAEEA (fun hm o fd ho hd=>?_) (hfn f n hn)
 simp only [isGlob,Bool.and_eq_true,beq_iff_eq,Bool.not_eq_true'] at hg
 show wpAny K.M A (eval (.Name f p) env >>= fun fv=>callWith pos fv [] (backTo pos (starEach es env)) []) Q E s
 refine wpAny_bind (glob_load hr fo hg.1 hg.2 hmg hmb (.inl hm) ?_)
 rw [back_all hc]
 exact Calls.callWith_function (o:=o) (fd:=fd) (evalArgs_list (wpAny_mono h (fun cvs s1 h1=>⟨⟨h1.1 _ _ ho,hd⟩,h1.2⟩) fun u_ v_ f=>f))
theorem ax (hy : Hy K A cl T) (cx : T.loops = true → CallX K A cl) : ∀ (es : List Expr) (as : Es), cEs T c es = some as → ∀ (ℓ : L) (σ : H) (r : R (List V)) (σ' : H), argsX cl as ℓ σ = some (r, σ') → ∀ (ρ : List Addr) (s : Shared), HR K ρ σ s.heap → FO K A env c ℓ ρ s.heap →
  wpAny K.M A (spliced (es.map fun e=>(false,eval e env))) (fun cvs s'=>∃vs ρ',r=.ok vs∧Good K ρ s ρ' σ' s'∧RVs K ρ' s'.heap vs cvs) (fun ev s'=>∃k,r=.exc k∧Flies K A ρ s σ' k ev s') s
 | [],as,hc,ℓ,σ,r,σ',he,ρ,s,hr,fo=>by
  cases hc
  refine pE he ?_
  exact wpAny_items_nil (pos:=⟨0,0,0,0⟩) (env:=env) ⟨[],ρ,rfl,Good.refl hr,.nil⟩
 | e::es,as,hc,ℓ,σ,r,σ',he,ρ,s,hr,fo=>by
  have again:=ax hy cx es
  refine byC fun hX=>?_;refine rEEAA (fun a b h1 h2 hO4=>?_) (cEs_cons hc);obtain rfl:=hO4;refine hX ?_;clear hX
  have hb:=back_all (env:=env) hc ⟨0,0,0,0⟩
  rw [← hb]
  refine wpAny_items_cons ?_ (star_plain h1 es)
  rcases bnd_inv he with ⟨v,σ1,h3,h4⟩ | ⟨k,h3,rfl⟩
  ·refine wpAny_mono ((sE hy e c env a h1).1 ℓ σ v σ1 (callX_ok h3) ρ s hr fo) (fun cv s1 hq=>?_) fun u_ v_ f=>f.elim
   revert hq;refine rEA fun ρ1 g1 rv=>?_
   rw [back_all h2]
   rcases bnd_inv h4 with ⟨vs,σ2,h5,h6⟩ | ⟨k,h5,rfl⟩
   ·refine pE h6 ?_
    refine wpAny_mono (again b h2 ℓ σ1 _ _ h5 ρ1 s1 g1.hr (fo.step hr g1.st)) (fun cvs s2 hq=>?_) fun ev s2 hq=>?_
    ·revert hq;refine rEEAA fun vs' ρ2 e1 g2 rvs=>?_
     obtain rfl:=oi e1
     exact ⟨_,ρ2,rfl,g1.trans g2,.cons (rv.step g1.hr g2.st) rvs⟩
    ·revert hq;refine rEA fun k e1 u2_=>?_;exact oe e1
   ·refine wpAny_mono (again b h2 ℓ σ1 _ _ h5 ρ1 s1 g1.hr (fo.step hr g1.st)) (fun cvs s2 hq=>?_) fun ev s2 hq=>?_
    ·revert hq;refine rEEA fun vs' ρ2 e1 u3_=>?_;exact eo e1
    ·revert hq;refine rEA fun k' e1 fl=>?_;obtain rfl:=ei e1;exact ⟨k,rfl,fl.after g1⟩
  ·cases a with
   | call n as'=>
    refine rEEEEAAAA (fun f q es' p hO4 hg hlo hn hc'=>?_) (cE_call h1);refine eqS hO4 ?_
    refine bok_e (h3) fun vs σ2 h5 h6=>?_
    refine call_run hy.G hg hn hc' hr fo (args_run (pos:=p) hc' (sEs hy es' c env as' hc') h5 hr fo fun ρ1 cvs s1 g1 rvs=>⟨g1.hr.keep,?_⟩)
    exact wpAny_mono (cx hlo n vs σ2 k σ' h6 ρ1 s1 cvs g1.hr rvs (fo.ff.step g1.st)) (fun u_ v_ f=>f.elim) fun ev s2 fl=>⟨k,rfl,fl.after g1⟩
   | _=>refine rEA (fun u0_ e1 u2_=>?_) (noX_inv h3);exact eo e1
theorem sX (hy:Hy K A cl T) (cx:T.loops=true→CallX K A cl) {e:Expr}{a:Ex} (h:cE T c e=some a):PX K A env c cl e a:=by
 intro ℓ σ r σ' he ρ s hr fo
 cases r with
 | ok v=>exact wpAny_mono ((sE hy e c env a h).1 ℓ σ v σ' (evalX_ok he) ρ s hr fo) (fun cv s1 ⟨ρ1,g1,rv⟩=>⟨v,ρ1,rfl,g1,rv⟩) fun u_ v_ f=>f.elim
 | exc k=>
  cases a with
  | call n as=>
   refine rEEEEAAAA (fun f q es p hO4 hg hlo hn hc=>?_) (cE_call h);refine eqS hO4 ?_
   refine call_run hy.G hg hn hc hr fo ?_
   rcases bnd_inv he with ⟨vs,σ1,h1,h2⟩ | ⟨k',h1,e1⟩
   ·refine wpAny_mono (ax hy cx es as hc ℓ σ _ _ h1 ρ s hr fo) (fun cvs s1 hq=>?_) fun ev s1 hq=>?_
    ·revert hq;refine rEEAA fun vs' ρ1 e1 g1 rvs=>?_
     obtain rfl:=oi e1
     refine ⟨g1.hr.keep,wpAny_mono (cx hlo n vs σ1 k σ' h2 ρ1 s1 cvs g1.hr rvs (fo.ff.step g1.st)) (fun u_ v_ f=>f.elim) fun ev s2 fl=>⟨k,rfl,fl.after g1⟩⟩
    ·revert hq;refine rEA fun k' e1 u2_=>?_;exact oe e1
   ·obtain rfl:=ei e1
    refine wpAny_mono (ax hy cx es as hc ℓ σ _ _ h1 ρ s hr fo) (fun cvs s1 hq=>?_) fun ev s1 hq=>?_
    ·revert hq;refine rEEA fun vs' ρ1 e1 u3_=>?_;exact eo e1
    ·revert hq;refine rEA fun k' e1 fl=>?_;obtain rfl:=ei e1;exact ⟨k,rfl,fl⟩
  | ucall m o as=>
   refine rEEEEEAAAAAAA (fun oe x q es p hO5 hl hcall hlen hlo hm ho hc=>?_) (cE_ucall h);refine eqS hO5 ?_
   refine bok_e (he) fun y σ1 h1 he=>?_
   refine bind_e (he) fun f hf he=>?_
   refine bok_e (he) fun vs σ2 h2 he=>?_
   exact ucall_run hy.wk hm hl hcall hlen hc (sE hy oe c env o ho).1 (sEs hy es c env as hc) h1 hf h2 hr fo fun ρ2 cy cvs s2 g2 r=>wpAny_mono (cx hlo f _ σ2 k σ' he ρ2 s2 _ g2.hr r (fo.ff.step g2.st)) (fun u_ v_ f=>f.elim) fun ev s3 fl=>⟨k,rfl,fl.after g2⟩
  | _=>refine rEA (fun u0_ e1 u2_=>?_) (noX_inv he);exact eo e1
end
noncomputable def FR (K:Kx) (ρ:List Addr) (h:Heap):Fl→Flow→Prop
 | .next,.next=>True
 | .brk,.brk=>True
 | .ret v,.ret cv=>RV K ρ h v cv
 | _,_=>False
noncomputable def Up (K:Kx) (A:Around) (T:Tabs) (env:Env) (c:CEnv) (ρ:List Addr) (s:Shared) (σ':H) (k:Nat) (ℓ':L) (ev:Value) (s':Shared):Prop :=
 s'.gens=s.gens∧s'.os=s.os∧∃ρ',∀outer,A.frames=some (env::outer)→Fly K (frameX env) ρ s ρ' σ' (env::outer) (K.tyv k) (FO K A env c ℓ' ρ') ev s'.heap∨
  (T.excs≠[]∧∃G e args,ev=.ref e∧FO K A env c ℓ' ρ' G∧HR K ρ' σ' G∧StepX (frameX env) ρ s ρ' { s with heap:=G }∧Heap.MadeExcOf G s'.heap e (K.tyv k) args)
abbrev TQ (K:Kx) (A:Around) (env:Env) (c:CEnv) (ρ:List Addr) (s:Shared) (f:Fl) (ℓ':L) (σ':H) (cf:Flow) (s':Shared):Prop:=∃ρ',HR K ρ' σ' s'.heap∧StepX (frameX env) ρ s ρ' s'∧FO K A env c ℓ' ρ' s'.heap∧FR K ρ' s'.heap f cf
abbrev TE (K:Kx) (A:Around) (T:Tabs) (env:Env) (c:CEnv) (ρ:List Addr) (s:Shared) (f:Fl) (ℓ':L) (σ':H) (ev:Value) (s':Shared):Prop:=∃k,f=.exc k∧Up K A T env c ρ s σ' k ℓ' ev s'
noncomputable def TS (K:Kx) (A:Around) (T:Tabs) (env:Env) (c:CEnv) (t:Sem Flow) (ρ:List Addr) (s:Shared) (f:Fl) (ℓ':L) (σ':H):Prop :=
 wpAny K.M A t (TQ K A env c ρ s f ℓ' σ') (TE K A T env c ρ s f ℓ' σ') s
noncomputable def PS (K:Kx) (A:Around) (T:Tabs) (env:Env) (c:CEnv) (cl:Cl) (st:Stmt) (a:St):Prop :=
 ∀ℓ σ f ℓ' σ',exec cl a ℓ σ=some (f,ℓ',σ')→∀ρ s,HR K ρ σ s.heap→FO K A env c ℓ ρ s.heap→TS K A T env c (PySem.exec st env) ρ s f ℓ' σ'
noncomputable def PSs (K:Kx) (A:Around) (T:Tabs) (env:Env) (c:CEnv) (cl:Cl) (ss:List Stmt) (a:Ss):Prop :=
 ∀ℓ σ f ℓ' σ',execs cl a ℓ σ=some (f,ℓ',σ')→∀ρ s,HR K ρ σ s.heap→FO K A env c ℓ ρ s.heap→TS K A T env c (PySem.execs ss env) ρ s f ℓ' σ'
theorem bndY_inv {α:Type}{x:X α}{k:α→H→Y}{f:Fl} (h:bndY x ℓ k=some (f,ℓ',σ')):(∃a σ1,x=some (.ok a,σ1)∧k a σ1=some (f,ℓ',σ'))∨∃j,x=some (.exc j,σ')∧f=.exc j∧ℓ'=ℓ:=by
 cases x with
 | none=>exact nn h
 | some p=>
  refine byC fun hX=>?_;obtain ⟨q,τ⟩:=p;refine hX ?_;clear hX
  cases q with
  | ok a=>exact .inl ⟨a,τ,rfl,h⟩
  | exc j=>refine p3E h ?_;exact .inr ⟨j,rfl,rfl,rfl⟩
section
variable {K:Kx}{A:Around}{env:Env}{c:CEnv}{cl:Cl}{T:Tabs}
theorem StepX.then {ρ2:List Addr}{s2:Shared} (x:StepX (frameX env) ρ s ρ1 s1) (fo:FO K A env c ℓ ρ1 s1.heap) (y:StepX (frameX env) ρ1 s1 ρ2 s2):StepX (frameX env) ρ s ρ2 s2:=x.trans y fo.X_some
theorem StepX.heap {X:List Addr}{G:Heap} (x:StepX X ρ s ρ' { s' with heap:=G }):StepX X ρ s ρ' { s with heap:=G }:=⟨x.pre,x.fr,x.fresh,rfl,rfl⟩
theorem Up.then {k:Nat}{ev:Value} (st:StepX (frameX env) ρ s ρ1 s1) (fo:FO K A env c ℓ ρ1 s1.heap) (u:Up K A T env c ρ1 s1 σ' k ℓ' ev s'):Up K A T env c ρ s σ' k ℓ' ev s':=by
 revert u;refine rAAE fun h1 h2 ρ' h3=>?_
 refine ⟨h1.trans st.gens,h2.trans st.os,ρ',fun outer hf=>?_⟩
 rcases h3 outer hf with h | ⟨h0,G,e,args,h4,h5,h6,h7,h8⟩
 ·exact .inl (h.map fun G u_ hP st2=>⟨(st.then fo st2).heap,hP⟩)
 ·exact .inr ⟨h0,G,e,args,h4,h5,h6,(st.then fo h7).heap,h8⟩
theorem Flies.up {k:Nat}{ev:Value} (hr:HR K ρ σ s.heap) (fo:FO K A env c ℓ ρ s.heap) (f:Flies K A ρ s σ' k ev s'):Up K A T env c ρ s σ' k ℓ ev s':=by
 revert f;refine rAAE fun h1 h2 ρ' h3=>?_
 exact ⟨h1,h2,ρ',fun outer hf=>.inl ((h3 _ hf).map fun G u_ v_ st=>⟨st.nil.toX _,fo.step hr st.nil⟩)⟩
theorem px_run {f : Fl} {e : Expr} {a : Ex} {kk : V → H → Y} (h : PX K A env c cl e a) (he : bndY (evalX cl a ℓ σ) ℓ kk = some (f, ℓ', σ')) (hr : HR K ρ σ s.heap) (fo : FO K A env c ℓ ρ s.heap) {Q : Value → Shared → Prop}
  (hq:∀v σ1 ρ1 cv s1,kk v σ1=some (f,ℓ',σ')→Good K ρ s ρ1 σ1 s1→RV K ρ1 s1.heap v cv→Q cv s1):wpAny K.M A (eval e env) Q (TE K A T env c ρ s f ℓ' σ') s:=by
 rcases bndY_inv he with ⟨v,σ1,h1,h2⟩ | ⟨j,h1,rfl,rfl⟩
 ·refine wpAny_mono (h ℓ σ _ σ1 h1 ρ s hr fo) (fun cv s1 hx=>?_) fun ev s1 hx=>?_
  ·revert hx;refine rEEAA fun v' ρ1 e1 g1 rv=>?_;obtain rfl:=oi e1;exact hq v σ1 ρ1 cv s1 h2 g1 rv
  ·revert hx;refine rEA fun k e1 u2_=>?_;exact oe e1
 ·refine wpAny_mono (h ℓ' σ _ σ' h1 ρ s hr fo) (fun cv s1 hx=>?_) fun ev s1 hx=>?_
  ·revert hx;refine rEEA fun v' ρ1 e1 u3_=>?_;exact eo e1
  ·revert hx;refine rEA fun k e1 fl=>?_;obtain rfl:=ei e1;exact ⟨j,rfl,fl.up hr fo⟩
theorem pss_nil:PSs K A T env c cl [] .nil:=by
 intro ℓ σ f ℓ' σ' he ρ s hr fo
 refine p3E he ?_
 exact wpAny_execs_nil ⟨ρ,hr,StepX.refl _ _ _,fo,trivial⟩
set_option tactic.hygienic true in
theorem pss_cons {st:Stmt}{ss:List Stmt}{a:St}{b:Ss} (h:PS K A T env c cl st a) (h':PSs K A T env c cl ss b):PSs K A T env c cl (st::ss) (.cons a b):=by
 intro ℓ σ f ℓ' σ' he ρ s hr fo
 have he:seqY (exec cl a ℓ σ) (fun ℓ1 σ1=>execs cl b ℓ1 σ1)=some (f,ℓ',σ'):=he
 cases h1:exec cl a ℓ σ with
 | none=>rw [h1] at he;exact nn he
 | some y=>
  refine byC fun hX=>?_;obtain ⟨f1,ℓ1,σ1⟩:=y;refine hX ?_;clear hX
  rw [h1] at he
  have hs:=h ℓ σ f1 ℓ1 σ1 h1 ρ s hr fo
  by_cases hn:f1=.next
  ·subst hn
   refine wpAny_execs_cons (wpAny_mono hs (fun cf s1 hq=>?_) fun ev s1 hq=>?_)
   ·revert hq;refine rEAAA fun ρ1 hr1 st1 fo1 hfr=>?_
    cases cf with
    | next=>
     refine wpAny_mono (h' ℓ1 σ1 f ℓ' σ' he ρ1 s1 hr1 fo1) (fun cf s2 hq=>?_) fun ev s2 hq=>?_
     ·revert hq;refine rEAAA fun ρ2 hr2 st2 fo2 hfr2=>?_
      exact ⟨ρ2,hr2,st1.then fo1 st2,fo2,hfr2⟩
     ·revert hq;refine rEA fun k e u=>?_;exact ⟨k,e,u.then st1 fo1⟩
    | _=>exact False.elim hfr
   ·revert hq;refine rEA fun k e u2_=>?_;cases e
  ·have e : (f1, ℓ1, σ1) = (f, ℓ', σ') := by
    cases f1 with
    | next=>exact absurd rfl hn
    | _=>exact Option.some.inj he
   cases e
   refine wpAny_execs_cons (wpAny_mono hs (fun cf s1 hq=>?_) fun ev s1 hq=>hq)
   revert hq;refine rEAAA fun ρ1 hr1 st1 fo1 hfr=>?_
   cases cf with
   | next=>cases f with
    | next=>exact absurd rfl hn
    | _=>exact False.elim hfr
   | _=>exact ⟨ρ1,hr1,st1,fo1,hfr⟩
theorem ps_expr {e:Expr}{pos:Pos}{a:Ex} (hc:isComp e=false) (h:PX K A env c cl e a):PS K A T env c cl (.Expr e pos) (.expr a):=by
 intro ℓ σ f ℓ' σ' he ρ s hr fo
 refine wpAny_Expr_any (px_run h he hr fo fun v σ1 ρ1 cv s1 h2 g1 rv=>?_) (by unfold interactive;rw [fo.kind];rfl) (by cases e <;> first | rfl | (exact tf hc))
 refine p3E h2 ?_
 exact ⟨ρ1,g1.hr,g1.st.toX _,fo.step hr g1.st,trivial⟩
theorem ps_ret {e:Expr}{pos:Pos}{a:Ex} (h:PX K A env c cl e a):PS K A T env c cl (.Return (some e) pos) (.ret a):=by
 intro ℓ σ f ℓ' σ' he ρ s hr fo
 refine wpAny_Return_some (px_run h he hr fo fun v σ1 ρ1 cv s1 h2 g1 rv=>?_)
 refine p3E h2 ?_
 exact ⟨ρ1,g1.hr,g1.st.toX _,fo.step hr g1.st,rv⟩
theorem ps_ret0 {pos:Pos}:PS K A T env c cl (.Return none pos) (.ret (.lit .none)):=by
 intro ℓ σ f ℓ' σ' he ρ s hr fo
 refine p3E he ?_
 exact wpAny_Return_none ⟨ρ,hr,StepX.refl _ _ _,fo,.none⟩
set_option tactic.hygienic true in
theorem ps_if {t:Expr}{x y:List Stmt}{pos:Pos}{a:Ex}{b d:Ss} (ht:PT K A env c cl t a) (hx:PSs K A T env c cl x b) (hy:PSs K A T env c cl y d):PS K A T env c cl (.If t x y pos) (.ife a b d):=by
 intro ℓ σ f ℓ' σ' he ρ s hr fo
 refine bokY_e (he) fun v σ1 h1 he=>?_
 show wpAny K.M A (do standAt pos;if ← isTrue t env (eval t env) then PySem.execs x env else PySem.execs y env) _ _ s
 refine wpAny_bind (wpAny_standAt (wpAny_bind ?_))
 split at he
 ·rename_i hv
  refine wpAny_mono (ht ℓ σ v σ1 true h1 hv ρ s hr fo) (fun q s1 hq=>?_) fun u_ v_ f=>f.elim
  revert hq;refine rEA fun ρ1 g1 hO2=>?_;refine eqS hO2 ?_
  refine wpAny_mono (hx ℓ σ1 f ℓ' σ' he ρ1 s1 g1.hr (fo.step hr g1.st)) (fun cf s2 hq=>?_) fun ev s2 hq=>?_
  ·revert hq;refine rEAAA fun ρ2 hr2 st2 fo2 hfr=>?_
   exact ⟨ρ2,hr2,(g1.st.toX _).then (fo.step hr g1.st) st2,fo2,hfr⟩
  ·revert hq;refine rEA fun k e u=>?_;exact ⟨k,e,u.then (g1.st.toX _) (fo.step hr g1.st)⟩
 ·rename_i hv
  refine wpAny_mono (ht ℓ σ v σ1 false h1 hv ρ s hr fo) (fun q s1 hq=>?_) fun u_ v_ f=>f.elim
  revert hq;refine rEA fun ρ1 g1 hO2=>?_;refine eqS hO2 ?_
  refine wpAny_mono (hy ℓ σ1 f ℓ' σ' he ρ1 s1 g1.hr (fo.step hr g1.st)) (fun cf s2 hq=>?_) fun ev s2 hq=>?_
  ·revert hq;refine rEAAA fun ρ2 hr2 st2 fo2 hfr=>?_
   exact ⟨ρ2,hr2,(g1.st.toX _).then (fo.step hr g1.st) st2,fo2,hfr⟩
  ·revert hq;refine rEA fun k e u=>?_;exact ⟨k,e,u.then (g1.st.toX _) (fo.step hr g1.st)⟩
 ·exact nn he
theorem ps_brk {pos:Pos}:PS K A T env c cl (.Break pos) .brk:=by
 intro ℓ σ f ℓ' σ' he ρ s hr fo
 refine p3E he ?_
 exact wpAny_Break ⟨ρ,hr,StepX.refl _ _ _,fo,trivial⟩
theorem ps_pass {pos:Pos}:PS K A T env c cl (.Pass pos) .pass:=by
 intro ℓ σ f ℓ' σ' he ρ s hr fo
 refine p3E he ?_
 exact wpAny_Pass ⟨ρ,hr,StepX.refl _ _ _,fo,trivial⟩
theorem own_X {x:Str}{a:Addr} (h:a=env.locals∨(c.names.lookup x=some .cell∧(x,a)∈env.cells)):∀b∈[a],b∈frameX env:=by
 intro b hb
 rw [List.mem_singleton.mp hb]
 rcases h with rfl | ⟨_,h⟩
 ·exact List.mem_cons_self
 ·exact List.mem_cons_of_mem _ (List.mem_map.mpr ⟨_,h,rfl⟩)
theorem ps_asg {x:Str}{px pos:Pos}{e:Expr}{i:Nat}{a:Ex} (hs:swapsWith e (some (.Name x px)) pos.line env=pure false) (hx:cVar c x=some i) (h:PX K A env c cl e a):PS K A T env c cl (.Assign [.Name x px] e pos) (.asg (.one i) a):=by
 intro ℓ σ f ℓ' σ' he ρ s hr fo
 show wpAny K.M A (PySem.exec (.Assign [.Name x px] e pos) env) _ _ s
 rw [exec_Assign_Name _ _ _ _ _ hs]
 refine wpAny_bind (wpAny_standAt (wpAny_bind (px_run h he hr fo fun v σ1 ρ1 cv s1 h2 g1 rv=>?_)))
 refine mapn_e ((show (setL ℓ i v).map _=_ from h2)) fun ℓ1 hset e=>?_
 cases e
 refine wpAny_bind (wpAny_standAt (wpAny_bind (wpAny_bindName (store_sound (fo.step hr g1.st) g1.hr hx hset rv fun s2 b hb hr2 st2 fo2=>wpAny_pure ?_))))
 exact ⟨ρ1,hr2,(g1.st.toX _).then (fo.step hr g1.st) (st2.weaken (own_X hb)),fo2,trivial⟩
theorem ps_asg_comp {x : Str} {px pos : Pos} {elt iter : Expr} {y : Str} {py p : Pos} {ifs : List Expr} {sc : Scope} {a : Ex} {it : It} {fs : Es} {tg i : Nat} (hh : ∀ ℓ σ src σ', evalIt cl it ℓ σ = some (.ok src, σ') → HH K A src) (ok : CompOK c sc) (hfs : ∀ v, foldedSetIterable iter env v = pure v)
  (hy:cVar (compC c sc) y=some tg) (hyl:(compC c sc).names.lookup y=some .local) (hI:PI K A env c cl iter it) (he:∀cenv,PE K A cenv (compC c sc) cl elt a) (hf:∀cenv,PF K A cenv (compC c sc) cl ifs fs)
  (hs:swapsWith (.ListComp elt [⟨.Name y py,iter,ifs,0⟩] sc p) (some (.Name x px)) pos.line env=pure true) (hx:cVar c x=some i) :
  PS K A T env c cl (.Assign [.Name x px] (.ListComp elt [⟨.Name y py,iter,ifs,0⟩] sc p) pos) (.asg (.one i) (.comp a tg it fs)):=by
 intro ℓ σ f ℓ' σ' hev ρ s hr fo
 rcases bndY_inv hev with ⟨v,σ1,h1,hev⟩ | ⟨j,h1,_⟩
 rotate_left
 ·refine rEA (fun u0_ e1 u2_=>?_) (noX_inv h1);exact eo e1
 have h1:=evalX_ok h1
 refine mapn_e ((show (setL ℓ i v).map _=_ from hev)) fun ℓ1 hset e=>?_
 cases e
 refine bok_e (h1) fun src σa k1 h1=>?_
 refine bok_e (h1) fun vs σ2 k2 h1=>?_
 refine byC fun hX=>?_;refine rA (fun hO0 hO1=>?_) (okJ h1);obtain rfl:=hO0;obtain rfl:=hO1;refine hX ?_;clear hX
 show wpAny K.M A (PySem.exec (.Assign [.Name x px] (.ListComp elt [⟨.Name y py,iter,ifs,0⟩] sc p) pos) env) _ _ s
 rw [exec_Assign_Name_used (env:=env) x px _ pos hs]
 refine wpAny_bind (wpAny_standAt (wpAny_bind ?_))
 unfold evalThenUse
 refine wpAny_bind (comp_main hh ok hfs hy hyl hI he hf k1 k2 hr fo fun s' D C ρ' cacc m e=>?_)
 refine rEAA (fun ρ'' g r hCρ=>?_) (e.done (Heap.SameBut.refl C s'.heap))
 have fo1:=fo.step hr g.st
 refine rE (fun m' hnC=>?_) e.ns
 have hcn:∀b∈frameX env,b≠C:=fun b hb=>by
  refine rE (fun o eo=>?_) (fo.X_some b hb)
  rintro rfl
  rw [e.newC] at eo;exact nn eo
 refine wpAny_assign_Name (store_sound fo1 g.hr hx hset r fun s2 b hb hr2 st2 fo2=>?_)
 have hbX:=own_X hb b List.mem_cons_self
 have hn2:s2.heap.Ns C m':=Ns.ng hnC fun o eo=>st2.fr C o eo hCρ fun hm=>hcn b hbX (List.mem_singleton.mp hm).symm
 refine ⟨m',hn2,fun h' hs'=>wpAny_pure (wpAny_pure ?_)⟩
 have hbut:∀b o,b≠C→s2.heap.get? b=some o→h'.get? b=some o:=fun b o hb e=>(hs'.2 b hb).trans e
 refine ⟨ρ'',hr2.but hCρ e.c0 (Ns.not_tup hn2) hbut,?_,fo2.butF (fun e=>hcn env.locals List.mem_cons_self e.symm) (fun y a hy=>hcn a (List.mem_cons_of_mem _ (List.mem_map.mpr ⟨_,hy,rfl⟩))) (Ns.not_tup hn2) (fun fs hf env' he'=>?_) hbut,trivial⟩
 rotate_left
 ·refine rAEEAAAA (fun u0_ L o h2 u4_ u5_ h5 u7_=>?_) (fo.ff fs hf env' he')
  refine rAEEAAAA (fun q1 L' o' q2 q3 q4 q5 q6=>?_) (fo2.ff fs hf env' he')
  rw [h2] at q2;obtain rfl:=Option.some.inj q2
  exact ⟨q1,L,o',h2,q3,q4,hbut _ _ (by rintro rfl;rw [e.newC] at h5;exact nn h5) q5,q6⟩
 have st3:=(g.st.toX (frameX env)).then fo1 (st2.weaken (own_X hb))
 exact ⟨st3.pre,fun z o ez hz hX=>ng_keep1 (fun o h=>hbut z o (by rintro rfl;rw [ng_none.mpr e.newC] at ez;exact nn ez) h) (st3.fr z o ez hz hX),st3.fresh,st3.gens,st3.os⟩
noncomputable def PTg (K:Kx) (A:Around) (env:Env) (c:CEnv) (t:Expr) (g:Tg):Prop:=∀(ℓ ℓ1:L) (v:V),setTg g v ℓ=some ℓ1→∀(ρ:List Addr) (σ:H) (s:Shared) (cv:Value),HR K ρ σ s.heap→FO K A env c ℓ ρ s.heap→RV K ρ s.heap v cv→∀(Q:Unit→Shared→Prop) (E:Value→Shared→Prop),
 (∀s2,HR K ρ σ s2.heap→StepX (frameX env) ρ s ρ s2→FO K A env c ℓ1 ρ s2.heap→Q () s2)→wpAny K.M A (assign t env cv) Q E s
theorem ptg_one {x:Str}{px:Pos}{i:Nat} (hx:cVar c x=some i):PTg K A env c (.Name x px) (.one i):=fun ℓ ℓ1 v hset ρ σ s cv hr fo rv Q E hq=>wpAny_assign_Name (store_sound fo hr hx hset rv fun s2 b hb hr2 st2 fo2=>hq s2 hr2 (st2.weaken (own_X hb)) fo2)
theorem setMany_inv {i:Nat}{is:List Nat}{vs:List V}{ℓ1:L} (h:setMany (i::is) vs ℓ=some ℓ1):∃v r ℓ2,vs=v::r∧setL ℓ i v=some ℓ2∧setMany is r ℓ2=some ℓ1:=by
 cases vs with
 | nil=>exact nn h
 | cons v r=>
  refine bind_e ((show (setL ℓ i v).bind _=_ from h)) fun ℓ2 h1 h2=>?_
  exact ⟨v,r,ℓ2,rfl,h1,h2⟩
theorem ext_all (he:Heap.ExtBut h.objs.size h h'):∀b o,h.get? b=some o→h'.get? b=some o:=fun b o e=>he b o (Nat.ne_of_lt (Heap.lt_size e)) e
theorem FO.keeps (fo:FO K A env c ℓ ρ s.heap) (hr:HR K ρ σ s.heap) (hk:∀b o,s.heap.get? b=some o→h'.get? b=some o):FO K A env c ℓ ρ h' :=
 fo.step (s':={ s with heap:=h' }) hr ⟨List.prefix_refl _,fun b o e u_=>ng_keep hk e,fun u_ h=>.inl h,rfl,rfl⟩
theorem StepX.keeps (X ρ:List Addr) (s:Shared) (hk:∀b o,s.heap.get? b=some o→h'.get? b=some o):StepX X ρ s ρ { s with heap:=h' }:=⟨List.prefix_refl _,fun b o e u_ v_=>ng_keep hk e,fun u_ h=>.inl h,rfl,rfl⟩
theorem ptg_three {x y z:Str}{p q u px:Pos}{k}{i j n:Nat} (hh:A.handled=none) (hx:cVar c x=some i) (hy:cVar c y=some j) (hz:cVar c z=some n):PTg K A env c (.Tuple [.Name x p,.Name y q,.Name z u] k px) (.three i j n):=by
 intro ℓ ℓ1 v hset ρ σ s cv hr fo rv Q E hq
 refine bind_e (hset) fun vs hv hset=>?_
 obtain rfl:=asTup_inv hv
 refine byC fun hX=>?_;obtain ⟨v1,r,ℓ2,rfl,e1,hset⟩:=setMany_inv hset;refine hX ?_;clear hX
 refine byC fun hX=>?_;obtain ⟨v2,r2,ℓ3,rfl,e2,hset⟩:=setMany_inv hset;refine hX ?_;clear hX
 refine byC fun hX=>?_;obtain ⟨v3,r3,ℓ4,rfl,e3,hset⟩:=setMany_inv hset;refine hX ?_;clear hX
 have hn:r3=[]∧ℓ4=ℓ1:=by
  cases r3 with
  | nil=>exact ⟨rfl,Option.some.inj hset⟩
  | cons _ _=>exact nn hset
 refine byC fun hX=>?_;obtain ⟨rfl,rfl⟩:=hn;refine hX ?_;clear hX
 refine byC fun hX=>?_;obtain ⟨a,cvs,rfl,ha,rvs,hl⟩:=rv.tupI rfl;refine hX ?_;clear hX
 refine byC fun hX=>?_;obtain ⟨c1,cr,rfl,g1,rvs⟩:=rvs.consI;refine hX ?_;clear hX
 refine byC fun hX=>?_;obtain ⟨c2,cr,rfl,g2,rvs⟩:=rvs.consI;refine hX ?_;clear hX
 refine byC fun hX=>?_;obtain ⟨c3,cr,rfl,g3,rvs⟩:=rvs.consI;refine hX ?_;clear hX
 obtain rfl:=rvs.nilI
 refine assign_Tuple_tuple hh ⟨_,ha,rfl,_,rfl⟩ rfl rfl fun h' he=>?_
 have hk:=ext_all he
 have fo1:=fo.keeps hr hk
 show wpAny K.M A (assignInOrder [assign (.Name x p) env,assign (.Name y q) env,assign (.Name z u) env] [c1,c2,c3]) Q E _
 refine assignInOrder_cons (wpAny_assign_Name (store_sound fo1 (hr.grow hk) hx e1 (g1.mono (List.prefix_refl _) fun b vs e=>hk _ _ e) fun s2 b hb hr2 st2 fo2=>?_))
 have st2':=(StepX.keeps _ _ _ hk).then fo1 (st2.weaken (own_X hb))
 refine assignInOrder_cons (wpAny_assign_Name (store_sound fo2 hr2 hy e2 (g2.mono (List.prefix_refl _) (st2'.tups hr fo.X_nt)) fun s3 b3 hb3 hr3 st3 fo3=>?_))
 have st3':=st2'.then fo2 (st3.weaken (own_X hb3))
 refine assignInOrder_cons (wpAny_assign_Name (store_sound fo3 hr3 hz e3 (g3.mono (List.prefix_refl _) (st3'.tups hr fo.X_nt)) fun s4 b4 hb4 hr4 st4 fo4=>?_))
 exact assignInOrder_nil (hq s4 hr4 (st3'.then fo3 (st4.weaken (own_X hb4))) fo4)
theorem ps_three {ts:List Expr}{k}{px pos:Pos}{e:Expr}{tg:Tg}{a:Ex} (ht:∀es k p,e≠.Tuple es k p) (hx:PTg K A env c (.Tuple ts k px) tg) (h:PX K A env c cl e a):PS K A T env c cl (.Assign [.Tuple ts k px] e pos) (.asg tg a):=by
 intro ℓ σ f ℓ' σ' he ρ s hr fo
 have hs:swapsWithSole [.Tuple ts k px] e pos.line env=pure false:=by cases e <;> rfl
 have hw:swappedStores [.Tuple ts k px] e env=pure none:=by cases e <;> first | rfl | exact absurd rfl (ht _ _ _)
 refine Assign_Tuple (px_run h he hr fo fun v σ1 ρ1 cv s1 h2 g1 rv=>?_) hs hw
 refine mapn_e (h2) fun ℓ1 hset e=>?_
 cases e
 have fo1:=fo.step hr g1.st
 exact hx ℓ ℓ' v hset ρ1 σ' s1 cv g1.hr fo1 rv _ _ fun s2 hr2 st2 fo2=>⟨ρ1,hr2,(g1.st.toX _).then fo1 st2,fo2,trivial⟩
end
end Mini.Internal
namespace Mini.Internal
open PySem PyProof.Rows PySem.SeqAt
variable {ρ ρ' ρ1:List Addr}{σ σ' σ1:H}{s s' s1:Shared}{h h':Heap}{ℓ ℓ':L}
section
variable {K:Kx}{A:Around}{env:Env}{c:CEnv}{cl:Cl}{T:Tabs}
theorem ItOK.stepX {I:Addr}{i:Nat}{src:Src}{k:ItK} (x:ItOK K ρ I i s.heap src k) (hr:HR K ρ σ s.heap) (fo:FO K A env c ℓ ρ s.heap) (hI:I ∉ frameX env) (st:StepX (frameX env) ρ s ρ' s'):ItOK K ρ' I i s'.heap src k:=by
 refine rEA (fun o eo u2_=>?_) x.st.obj
 refine x.move st.pre (fun o e=>st.ex e x.off hI (x.st.nf e)) (st.tups hr fo.X_nt) fun hm=>?_
 rcases st.fresh I hm with h | h
 ·exact x.off h
 ·rw [eo] at h;exact ns h
noncomputable def Lp (K:Kx) (A:Around) (env:Env) (c:CEnv) (J:Nat→List Addr→Heap→Prop) (i:Nat) (ρ:List Addr) (σ:H) (ℓ:L) (s:Shared):Prop:=J i ρ s.heap∧HR K ρ σ s.heap∧FO K A env c ℓ ρ s.heap
structure Drw (K:Kx) (A:Around) (env:Env) (c:CEnv) (te:Expr) (iv:Value) (vs:List V) (keep:H→Prop) (Y:List Addr) (J:Nat→List Addr→Heap→Prop):Prop where
 ex:∀i ρ h,J i ρ h→∀b∈Y,∃o,h.get? b=some o
 step:∀i ρ ρ' σ ℓ s s',Lp K A env c J i ρ σ ℓ s→StepX (frameX env) ρ s ρ' s'→J i ρ' s'.heap
 next:∀i ρ σ ℓ s (Q E:Value→Shared→Prop) (R:Option Value→Shared→Prop) v,Lp K A env c J i ρ σ ℓ s→keep σ→vs[i]? = some v→(∀w s1,wpAny K.M A (letOwnedTupleGo te iv w) (fun u_ s2=>Q w s2) E s1→R (some w) s1)→
  (∀cv s1,StepX Y ρ s ρ s1→Lp K A env c J (i + 1) ρ σ ℓ s1→RV K ρ s1.heap v cv→Q cv s1)→wpAny K.M A (pyNext iv) R E s
 done:∀i ρ σ ℓ s (E:Value→Shared→Prop) (R:Option Value→Shared→Prop),Lp K A env c J i ρ σ ℓ s→keep σ→i=vs.length→(∀s1,StepX Y ρ s ρ s1→HR K ρ σ s1.heap→FO K A env c ℓ ρ s1.heap→R none s1)→wpAny K.M A (pyNext iv) R E s
theorem Good.fin {X Y ρ2:List Addr}{σ2:H}{s0 s2:Shared} (g:Good K ρ s0 ρ2 σ2 s2) (hY:∀b∈Y,s0.heap.get? b=none) (st:StepX (Y++X) ρ2 s2 ρ' s'):StepX X ρ s0 ρ' s':=by
 refine ⟨g.st.pre.trans st.pre,fun z o e hz hX=>?_,fun z hz=>?_,st.gens.trans g.st.gens,st.os.trans g.st.os⟩
 ·refine st.fr z o (g.st.fr z o e hz) (fun h=>?_) fun h=>?_
  ·rcases g.st.fresh z h with h | h
   ·exact hz h
   ·rw [ng_none.mpr h] at e;exact nn e
  ·rcases List.mem_append.mp h with h | h
   ·rw [ng_none.mpr (hY z h)] at e;exact nn e
   ·exact hX h
 ·rcases st.fresh z hz with h | h
  ·exact g.st.fresh z h
  ·by_cases hr':z∈ρ
   ·exact .inl hr'
   ·right
    cases hg:s0.heap.get? z with
    | none=>rfl
    | some o=>have:=g.st.fr z _ (ng_of hg) hr';rw [ng_none.mpr h] at this;cases this
theorem ts_gen {t:Sem Flow}{f:Fl} (h:∀(Q:Flow→Shared→Prop) (E:Value→Shared→Prop),(∀ρ' cf s',HR K ρ' σ' s'.heap→StepX (frameX env) ρ s ρ' s'→FO K A env c ℓ' ρ' s'.heap→FR K ρ' s'.heap f cf→Q cf s')→wpAny K.M A t Q E s):TS K A T env c t ρ s f ℓ' σ':=h _ _ fun ρ' u_ v_ h1 h2 h3 h4=>⟨ρ',h1,h2,h3,h4⟩
theorem tr_run {α:Type}{t:Sem α}{P:List Addr→α→Shared→Prop}{Q:α→Shared→Prop}{E:Value→Shared→Prop} (h:TR K A t ρ s σ' P) (k:∀ρ1 a s1,Good K ρ s ρ1 σ' s1→P ρ1 a s1→Q a s1):wpAny K.M A t Q E s :=
 wpAny_mono h (fun a s1 ⟨ρ1,g,p⟩=>k ρ1 a s1 g p) fun u_ v_ f=>f.elim
set_option tactic.hygienic true in
theorem out_ok {f1 f : Fl} {cf : Flow} {ℓ2 ℓf : L} {σ2 σf : H} {Q : Flow → Shared → Prop} (h : (f1 = .brk ∧ f = .next ∨ (∃ v, f1 = .ret v ∧ f = .ret v)) ∧ ℓf = ℓ2 ∧ σf = σ2) (hQ : ∀ cf, FR K ρ' s'.heap f cf → Q cf s') (fr : FR K ρ' s'.heap f1 cf) :
  match cf with | .next | .cont=>False | .brk=>Q .next s' | .ret v=>Q (.ret v) s':=by
 rcases h.1 with ⟨e1,e2⟩ | ⟨v,e1,e2⟩
 ·rw [e1] at fr;rw [e2] at hQ
  cases cf with
  | brk=>exact hQ .next trivial
  | _=>exact fr.elim
 ·rw [e1] at fr;rw [e2] at hQ
  cases cf with
  | ret cv=>exact hQ (.ret cv) fr
  | _=>exact fr.elim
set_option tactic.hygienic true in
theorem turnY_inv {y:Y}{k:L→H→Y}{f:Fl}{ℓf:L}{σf:H} (h:turnY y k=some (f,ℓf,σf)):∃f1 ℓ2 σ2,y=some (f1,ℓ2,σ2)∧(f1=.next→k ℓ2 σ2=some (f,ℓf,σf))∧(f1≠.next→(f1=.brk∧f=.next∨(∃v,f1=.ret v∧f=.ret v))∧ℓf=ℓ2∧σf=σ2):=by
 cases y with
 | none=>exact nn h
 | some z=>
  refine byC fun hX=>?_;obtain ⟨f1,ℓ2,σ2⟩:=z;refine hX ?_;clear hX
  refine ⟨f1,ℓ2,σ2,rfl,fun e=>?_,fun e=>?_⟩
  ·rw [e] at h;exact h
  ·cases f1 with
   | next=>exact absurd rfl e
   | brk=>refine p3E h ?_;exact ⟨.inl ⟨rfl,rfl⟩,rfl,rfl⟩
   | ret w=>refine p3E h ?_;exact ⟨.inr ⟨w,rfl,rfl⟩,rfl,rfl⟩
   | exc k=>exact nn h
set_option tactic.hygienic true in
theorem forL_e {body : L → H → Y} {t : Tg} {keep : H → Prop} {v : V} {r : List V} {f : Fl} {ℓf : L} {σf : H} {P : Prop} (h : forL body t keep (v :: r) ℓ σ = some (f, ℓf, σf))
  (k1:∀ℓ1 f1 ℓ2 σ2,setTg t v ℓ=some ℓ1→body ℓ1 σ=some (f1,ℓ2,σ2)→(f1=.next→keep σ2∧forL body t keep r ℓ2 σ2=some (f,ℓf,σf))→
   (f1≠.next→(f1=.brk∧f=.next∨(∃v,f1=.ret v∧f=.ret v))∧ℓf=ℓ2∧σf=σ2)→P):P:=by
 refine bind_e ((show (setTg t v ℓ).bind _=_ from h)) fun ℓ1 hset h=>?_
 refine rEEEAA (fun f1 ℓ2 σ2 hb h1 h2=>?_) (turnY_inv h)
 exact k1 ℓ1 f1 ℓ2 σ2 hset hb (fun e=>ite_some (h1 e)) h2
set_option tactic.hygienic true in
theorem out_exc {f1 f:Fl}{k:Nat}{P:Prop} (h:(f1=.brk∧f=.next∨(∃v,f1=.ret v∧f=.ret v))∧P) (q:f1=.exc k):False:=by
 rw [q] at h
 rcases h.1 with ⟨h,_⟩ | ⟨_,h,_⟩ <;> cases h
set_option tactic.hygienic true in
theorem loop {te : Expr} {iv : Value} {vs : List V} {keep : H → Prop} {Y : List Addr} {J : Nat → List Addr → Heap → Prop} (D : Drw K A env c te iv vs keep Y J) {body : List Stmt} {b : Ss} {tg : Tg} (hx : PTg K A env c te tg) (hb : PSs K A T env c cl body b) {ρ0 ρ2 : List Addr} {s0 s2 : Shared} {σ0:H} {ℓf:L} {f : Fl} {σf : H} (hr : HR K ρ0 σ0 s0.heap) (fo : FO K A env c ℓ ρ0 s0.heap)
  (g:Good K ρ0 s0 ρ2 σ s2) (hY:∀b∈Y,s0.heap.get? b=none) (hJ:J 0 ρ2 s2.heap) (hk:keep σ) (hev:forL (execs cl b) tg keep vs ℓ σ=some (f,ℓf,σf)) {Q:Flow→Shared→Prop}{E:Value→Shared→Prop} (hQ:∀ρ' cf s',HR K ρ' σf s'.heap→StepX (frameX env) ρ0 s0 ρ' s'→FO K A env c ℓf ρ' s'.heap→FR K ρ' s'.heap f cf→Q cf s') :
  codeAny K.M A (.forLoop te iv body [] env) (fun r s'=>match r with | .ok f=>Q f s' | .error e=>cameBackBy K.M A env E e s') s2:=by
 have wk:∀z∈frameX env,z∈Y++frameX env:=fun z h=>List.mem_append_right _ h
 have ex:∀{i ρ σ ℓ s},Lp K A env c J i ρ σ ℓ s→∀z∈Y++frameX env,∃o,s.heap.get? z=some o:=fun l z hz=>(List.mem_append.mp hz).elim (D.ex _ _ _ l.1 z) (l.2.2.X_some z)
 refine codeAny_forLoop_any (fun n s=>∃i ρ' σ' ℓ',(n=vs.length - i∧i≤vs.length)∧Lp K A env c J i ρ' σ' ℓ' s∧StepX (Y++frameX env) ρ2 s2 ρ' s∧keep σ'∧forL (execs cl b) tg keep (vs.drop i) ℓ' σ'=some (f,ℓf,σf)) (fun n s hJ=>?_) (vs.length - 0) ⟨0,ρ2,σ,ℓ,⟨rfl,Nat.zero_le _⟩,⟨hJ,g.hr,fo.step hr g.st⟩,StepX.refl _ _ _,hk,hev⟩
 revert hJ;refine rEEEEAAAA fun i ρ' σ' ℓ' hn l st hk hrun=>?_
 have wy:=fun s1 (st1:StepX Y ρ' s ρ' s1)=>st.trans (st1.weaken fun z h=>List.mem_append_left _ h) (ex l)
 rcases Nat.lt_or_ge i vs.length with hi | hi
 ·rw [List.drop_eq_getElem_cons hi] at hrun
  refine forL_e hrun fun ℓ1 f1 ℓ2 σ2 hset hbody h4 h5=>?_
  refine D.next i ρ' σ' ℓ' s _ _ _ _ l hk (List.getElem?_eq_getElem hi) (fun w s1 h=>h) fun cv s1 st1 l1 rv=>?_
  refine hx ℓ' ℓ1 _ hset ρ' σ' s1 cv l1.2.1 l1.2.2 rv _ _ fun sB hrB stB foB=>?_
  have lB:Lp K A env c J (i + 1) ρ' σ' ℓ1 sB:=⟨D.step _ _ _ _ _ _ _ l1 stB,hrB,foB⟩
  refine wpAny_mono (hb ℓ1 σ' f1 ℓ2 σ2 hbody ρ' sB hrB foB) (fun cf sC hq=>?_) fun u_ v_ hx=>?_
  ·revert hq;refine rEAAA fun ρC hrC stC foC frC=>?_
   have stE:=((wy s1 st1).trans (stB.weaken wk) (ex l1)).trans (stC.weaken wk) (ex lB)
   by_cases e:f1=.next
   ·rw [e] at frC
    cases cf with
    | next=>exact ⟨vs.length - (i + 1),hn.1 ▸ Nat.sub_lt_sub_left hi (Nat.lt_succ_self i),i + 1,ρC,σ2,ℓ2,⟨rfl,hi⟩,⟨D.step _ _ _ _ _ _ _ lB stC,hrC,foC⟩,stE,(h4 e).1,(h4 e).2⟩
    | _=>exact frC.elim
   ·have:=out_ok (Q:=Q) (h5 e) (fun cf' hf'=>hQ ρC cf' sC ((h5 e).2.2 ▸ hrC) (g.fin hY stE) ((h5 e).2.1 ▸ foC) hf') frC
    cases cf with
    | next=>exact this.elim
    | cont=>exact this.elim
    | brk=>exact this
    | ret v=>exact this
  ·revert hx;refine rEA fun kk e u2_=>?_
   exact (out_exc (h5 (by rw [e];intro h;cases h)) e).elim
 ·rw [List.drop_eq_nil_of_le hi] at hrun
  have e:=pJ3 (show some (Fl.next,ℓ',σ')=some (f,ℓf,σf) from hrun)
  exact D.done i ρ' σ' ℓ' s _ _ l hk (Nat.le_antisymm hn.2 hi) fun s1 st1 hr1 fo1=>wpAny_execs_nil (hQ ρ' .next s1 (e.2.2 ▸ hr1) (g.fin hY (wy s1 st1)) (e.2.1 ▸ fo1) (e.1 ▸ trivial))
theorem FO.out (fo:FO K A env c ℓ ρ h) {b:Addr} (hb:h.get? b=none):b ∉ frameX env:=fun hm=>by
 refine rE (fun o e=>?_) (fo.X_some b hm)
 rw [hb] at e;exact nn e
theorem FO.off (fo:FO K A env c ℓ ρ h) {I:Addr} (hI:I ∉ frameX env) (hnt:∀vs,h.get? I≠some (tupObj vs)) (hnd:∀o,h.get? I=some o→¬ dy o) (hk:∀b o,b≠I→h.get? b=some o→h'.get? b=some o):FO K A env c ℓ ρ h' :=
 fo.but (fun e=>hI (by rw [e];exact List.mem_cons_self)) (fun y a hy e=>hI (by rw [← e];exact List.mem_cons_of_mem _ (List.mem_map.mpr ⟨_,hy,rfl⟩))) hnt hnd hk
theorem ItOK.fo {I:Addr}{i:Nat}{src:Src}{k:ItK} (x:ItOK K ρ I i h src k) (fo:FO K A env c ℓ ρ h) (hI:I ∉ frameX env) (hk:∀b o,b≠I→h.get? b=some o→h'.get? b=some o):FO K A env c ℓ ρ h':=fo.off hI x.not_tup (fun u_ e=>x.st.nf e) hk
set_option tactic.hygienic true in
theorem drw_it {x:Str}{px:Pos}{src:Src}{k:ItK}{I:Addr} (hh:A.handled=none) (hI:I ∉ frameX env):Drw K A env c (.Name x px) (.ref I) src.vs src.keep [I] (fun i ρ h=>ItOK K ρ I i h src k) where
 ex:=fun i ρ h x b hb=>by rw [List.mem_singleton.mp hb];exact rEA (fun o e u_=>⟨o,e⟩) x.st.obj
 step:=fun i ρ ρ' σ ℓ s s' l st=>l.1.stepX l.2.1 l.2.2 hI st
 next:=fun i ρ σ ℓ s Q E R v l hk hv hR hq=>it_next (.inl hh) l.1 l.2.1 hk hv fun cv h' tk hk1 hr1 rv1 it1=>hR _ _ (wpAny_pure (hq cv _ (StepX.one hk1) ⟨it1,hr1,l.1.fo l.2.2 hI hk1⟩ rv1))
 done:=fun i ρ σ ℓ s E R l hk hv hq=>it_done (.inl hh) l.1 l.2.1 hk hv fun h' tk hk1 hr1=>hq _ (StepX.one hk1) hr1 (l.1.fo l.2.2 hI hk1)
theorem ps_for {x : Str} {px pos : Pos} {iter : Expr} {it : It} {body : List Stmt} {b : Ss} {tg : Tg} (hh : A.handled = none) (hfs : ∀ v, foldedSetIterable iter env v = pure v) (hx : PTg K A env c (.Name x px) tg) (hI : PI K A env c cl iter it) (hb : PSs K A T env c cl body b) :
  PS K A T env c cl (.For (.Name x px) iter body [] pos) (.for_ tg it b):=by
 intro ℓ σ f ℓf σf hev ρ s0 hr fo
 refine bokY_e (hev) fun src σ1 h1 hev=>?_
 refine ts_gen fun Q E hQ=>?_
 refine wpAny_For (wpAny_mono (hI ℓ σ src σ1 h1 ρ s0 hr fo) (fun xv s1 hq=>wpAny_mono hq (fun itv s2 hq=>?_) fun u_ v_ f=>f.elim) fun u_ v_ f=>f.elim) hfs
 refine byC fun hX=>?_;revert hq;refine rEEEAAAA fun ρ2 I k hO3 g2 itok hkeep hIn=>?_;obtain rfl:=hO3;refine hX ?_;clear hX
 exact loop (drw_it hh (fo.out hIn)) hx hb hr fo g2 (fun b hb=>List.mem_singleton.mp hb ▸ hIn) itok hkeep hev hQ
set_option tactic.hygienic true in
theorem whileL_e {test : L → H → X V} {body : L → H → Y} {n : Nat} {f : Fl} {ℓf : L} {σf : H} {P : Prop} (h : whileL test body n ℓ σ = some (f, ℓf, σf))
  (k0:∀v σ1,test ℓ σ=some (.ok v,σ1)→truth v=some false→f=.next→ℓf=ℓ→σf=σ1→P)
  (k1:∀m v σ1 f1 ℓ2 σ2,m < n→test ℓ σ=some (.ok v,σ1)→truth v=some true→body ℓ σ1=some (f1,ℓ2,σ2)→
   (f1=.next→whileL test body m ℓ2 σ2=some (f,ℓf,σf))→(f1≠.next→(f1=.brk∧f=.next∨(∃v,f1=.ret v∧f=.ret v))∧ℓf=ℓ2∧σf=σ2)→P):P:=by
 cases n with
 | zero=>exact nn h
 | succ n=>
  refine bokY_e ((show bokY (test ℓ σ) _=_ from h)) fun v σ1 ht h=>?_
  refine bind_e (h) fun b hv h=>?_
  cases b with
  | false=>exact rAA (fun e1 e2 e3=>k0 v σ1 ht hv e1.symm e2.symm e3.symm) (pJ3 h)
  | true=>
   refine rEEEAA (fun f1 ℓ2 σ2 hb h1 h2=>?_) (turnY_inv (show turnY (body ℓ σ1) _=_ from h))
   exact k1 n v σ1 f1 ℓ2 σ2 (Nat.lt_succ_self n) ht hv hb h1 h2
set_option tactic.hygienic true in
theorem ps_while {t:Expr}{body:List Stmt}{pos:Pos}{a:Ex}{b:Ss} (ht:PT K A env c cl t a) (hb:PSs K A T env c cl body b):PS K A T env c cl (.While t body [] pos) (.whl a b):=by
 intro ℓ σ f ℓf σf hev ρ s hr fo
 refine ts_gen fun Q E hQ=>?_
 refine wpAny_While (codeAny_whileLoop (fun n s'=>∃ρ' σ' ℓ',whileL (evalE cl a) (execs cl b) n ℓ' σ'=some (f,ℓf,σf)∧HR K ρ' σ' s'.heap∧StepX (frameX env) ρ s ρ' s'∧FO K A env c ℓ' ρ' s'.heap) (fun n s' hI=>?_) whileMax ⟨ρ,σ,ℓ,hev,hr,StepX.refl _ _ _,fo⟩)
 revert hI;refine rEEEAAA fun ρ' σ' ℓ' hrun hr' st' fo'=>?_
 refine whileL_e hrun (fun v σ1 h1 h2 e1 e2 e3=>tr_run (ht ℓ' σ' v σ1 false h1 h2 ρ' s' hr' fo') fun ρ1 q s1 g1 hq=>?_) fun m v σ1 f1 ℓ2 σ2 hm h1 h2 h3 h4 h5=>tr_run (ht ℓ' σ' v σ1 true h1 h2 ρ' s' hr' fo') fun ρ1 q s1 g1 hq=>?_
 ·rw [hq]
  exact wpAny_execs_nil (hQ ρ1 .next s1 (e3 ▸ g1.hr) (st'.then fo' (g1.st.toX _)) (e2 ▸ fo'.step hr' g1.st) (e1 ▸ trivial))
 ·rw [hq]
  have fo1:=fo'.step hr' g1.st
  have st1:=st'.then fo' (g1.st.toX _)
  refine wpAny_mono (hb ℓ' σ1 f1 ℓ2 σ2 h3 ρ1 s1 g1.hr fo1) (fun cf sC hq=>?_) fun u_ v_ hx=>?_
  ·revert hq;refine rEAAA fun ρC hrC stC foC frC=>?_
   by_cases e:f1=.next
   ·rw [e] at frC
    cases cf with
    | next=>exact ⟨m,hm,ρC,σ2,ℓ2,h4 e,hrC,st1.then fo1 stC,foC⟩
    | _=>exact frC.elim
   ·have:=out_ok (Q:=Q) (h5 e) (fun cf' hf'=>hQ ρC cf' sC ((h5 e).2.2 ▸ hrC) (st1.then fo1 stC) ((h5 e).2.1 ▸ foC) hf') frC
    cases cf with
    | next=>exact this.elim
    | cont=>exact this.elim
    | brk=>exact this
    | ret v=>exact this
  ·revert hx;refine rEA fun kk e u2_=>?_
   exact (out_exc (h5 (by rw [e];intro h;cases h)) e).elim
end
end Mini.Internal
namespace Mini.Internal
open PySem PyProof.Rows PySem.SeqAt PySem.W
variable {ρ ρ' ρ1:List Addr}{σ σ' σ1:H}{s s' s1:Shared}{h h':Heap}{ℓ ℓ':L}
theorem nsPut_lookup {k:Nat}{v:V} (j:Nat):∀l:List (Nat×V),(nsPut l k v).lookup j=if j=k then some v else l.lookup j
 | []=>by
  show (match j == k with | true=>some v | false=>List.lookup j [])=_
  by_cases h:j=k
  ·subst h;simp
  ·have:(j == k)=false:=by simpa using h
   rw [this,if_neg h]
 | (b,w)::r=>by
  have ih:=nsPut_lookup j (k:=k) (v:=v) r
  by_cases hb:b=k
  ·subst hb
   show (if b=b then (b,v)::r else _).lookup j=_
   rw [if_pos rfl]
   by_cases h:j=b
   ·subst h;simp [List.lookup]
   ·have:(j == b)=false:=by simpa using h
    simp [List.lookup,this,h]
  ·show (if b=k then (b,v)::r else (b,w)::nsPut r k v).lookup j=_
   rw [if_neg hb]
   by_cases h:j=b
   ·subst h;simp [List.lookup,hb]
   ·have:(j == b)=false:=by simpa using h
    simp only [List.lookup,this,ih]
theorem atn_mem {k:Nat} (h:k < 2):atn k∈[atn 0,atn 1]:=by
 have:k=0∨k=1:=by lia
 rcases this with rfl | rfl <;> simp
theorem atn_inj {j k:Nat} (hj:j < 2) (hk:k < 2) (h:atn j=atn k):j=k:=by
 have a:j=0∨j=1:=by lia
 have b:k=0∨k=1:=by lia
 rcases a with rfl | rfl <;> rcases b with rfl | rfl
 ·rfl
 ·exact absurd h atn_ne
 ·exact absurd h.symm atn_ne
 ·rfl
structure EK (K:Kx) (T:Tabs):Prop where
 at_ : ∀ x k, T.excs.lookup x = some k → ∃ C B newId initId bmB mg, K.tyv k = .ref C ∧ ExcBaseFacts B newId initId bmB ∧ bmB.contains (.type "BaseException") = true ∧ OwnClsQ x C bmB newId mg K.h0
 sub:∀x t k,T.excs.lookup x=some t→excSub k t=true→(∃y,T.excs.lookup y=some k)∧∀C D,K.tyv k=.ref C→K.tyv t=.ref D→∃o cd,K.h0.get? C=some o∧o.data=.cls cd∧cd.mro.contains (.ref D)=true
section
variable {M:Model}{A:Around}{E:Value→Shared→Prop}{nm q nm' q':Str}{C N D N':Addr}{bs bm bs' bm':List Value}{hdct hdct':Bool}{sn sn':List Str}{sub sub':List Value}{ab ab':Bool}{col col':Option Bool}{dd dd':Option Addr}{k0 k1 k2 k3 k5 j0 j1 j2 j3 j5:Option Value}{newId newId':String}
theorem exm_sub {g : Array GenState} {d : Drawn} {t : Nat} {os : OsState} {e : Addr} {oe : Obj} {Q : Bool → Shared → Prop}
  (hC : h.get? C = some (excClassObj nm q C N bs bm hdct sn sub ab col dd k0 k1 k2 k3 k5 newId)) (hD : h.get? D = some (excClassObj nm' q' D N' bs' bm' hdct' sn' sub' ab' col' dd' j0 j1 j2 j3 j5 newId')) (he : h.get? e = some oe) (hcls : oe.cls = .ref C) (hbase : bm'.contains (.type "BaseException") = true)
  (hcD:(Value.ref C::bm).contains (.ref D)=true) (hq:Q true ⟨h,g,d,t,os⟩):wpAny M A (excMatches (.ref e) (.ref D)) Q E ⟨h,g,d,t,os⟩:=by
 have hcB : (Value.ref D :: bm').contains (.type "BaseException") = true := by rw [List.contains_cons, hbase, Bool.or_true]
 have f:=tc_notTuple
 unfold excMatches
 repeat (first | (with_reducible refine wpAny_loadPart_at he ?_;rw [hcls]) | with_reducible refine wpAny_loadPart_at hD ?_ | (with_reducible refine wpAny_isSubtype_exc hD ?_;rw [hcB]) | (with_reducible refine wpAny_isSubtype_exc hC ?_;rw [hcD]) | wp_step)
 exact hq
end
section
variable {K:Kx}{A:Around}{env:Env}{c:CEnv}{cl:Cl}{T:Tabs}
theorem ps_aset (W:WK K T cl.pg) {o:Expr}{x:Str}{pos' pos:Pos}{e:Expr}{a b:Ex}{k:Nat} (hk:T.attrs.lookup x=some k) (h:PX K A env c cl e a) (ho:PE K A env c cl o b):PS K A T env c cl (.Assign [.Attribute o x pos'] e pos) (.aset b k a):=by
 intro ℓ σ f ℓ' σ' he ρ s hr fo
 refine plainObj_wpAny_Assign_Attribute (px_run h he hr fo fun v σ1 ρ1 cv s1 h2 g1 rv=>?_) (by cases e <;> rfl)
 refine bokY_e (h2) fun y σ2 h3 h4=>?_
 refine mapn_e (h4) fun p hp e=>?_
 cases e
 refine byC fun hX=>?_;refine rEEAA (fun n cn hO2 i1 i2=>?_) (nsOf_inv hp);obtain rfl:=hO2;refine hX ?_;clear hX
 refine wpAny_mono (ho _ σ1 _ σ2 h3 ρ1 s1 g1.hr (fo.step hr g1.st)) (fun co s2 hq=>?_) fun u_ v_ f=>f.elim
 revert hq;refine rEA fun ρ2 g2 rx=>?_
 refine byC fun hX=>?_;refine rA (fun hk2 hO1=>?_) (W.attr x k hk);obtain rfl:=hO1;refine hX ?_;clear hX
 refine byC fun hX=>?_;refine rEA (fun ax hO1 ha=>?_) (rx.objI rfl);obtain rfl:=hO1;refine hX ?_;clear hX
 refine rEEEEAAAAAAAA (fun C ad m ob e1 e2 e3 e4 e5 e6 e7 e8 e9=>?_) (g2.hr.inst i1 i2 ha)
 refine rEEAAAAA (fun N mN w1 w2 w3 w4 w5 u7_=>?_) (W.cls cn C e1)
 refine rEEEEEEEEEEEE (fun nm q bs sn sub col dd k0 k1 k2' k3 k5 hC=>?_) w1.obj
 have hxC:ax≠C:=by rintro rfl;have:=g2.hr.new ax (List.mem_of_getElem? ha);rw [this] at hC;exact nn hC
 have g:=g1.trans g2
 have rv2:=rv.step g1.hr g2.st
 refine byC fun hX=>?_;obtain ⟨hh,gg,dr,t,os⟩:=s2;refine hX ?_;clear hX
 refine store_attr PySem.F.store_object (g2.hr.keep _ _ hC) (w1.keeps g2.hr.keep).ns w4 (w5 k hk2) (lk_atn k) hxC e2 (fun h' tk' I' hk' hsame=>?_) (hw:=e8)
 refine rEAAAA (fun o1 q1 q2 q3 q4 q5=>?_) (hsame ob e4)
 have hoo:o1=ob:=by
  have q6:=q5 ad e5
  refine byC fun hX=>?_;obtain ⟨a1,a2,a3,a4⟩:=o1;refine hX ?_;clear hX
  refine byC fun hX=>?_;obtain ⟨b1,b2,b3,b4⟩:=ob;refine hX ?_;clear hX
  simp only at q2 q3 q4 q6 e5
  rw [q2,q3,q4,q6,e5]
 subst hoo
 have hkk:∀b o,b≠ad→hh.get? b=some o→h'.get? b=some o:=fun b o hb eb=>by
  by_cases hbx:b=ax
  ·subst hbx
   have eb':some o1=some o:=e4.symm.trans eb
   refine siE eb' ?_;exact q1
  ·exact hk' b o hbx (fun o0 dx z1 z2 => by
    have:some o1=some o0:=e4.symm.trans z1
    obtain rfl:=Option.some.inj this;rw [e5] at z2;refine siE z2 ?_;exact hb) eb
 revert I';refine rEAAA fun o2 y1 y2 y3 y4=>?_
 have:some o1=some o2:=q1.symm.trans y1
 obtain rfl:=Option.some.inj this
 obtain ⟨d',y5,y6,y7⟩ : ∃d',o1.dict=some d'∧d'≠ax∧h'.Ns1 d' fun y=>if y=atn k then some cv else m y:=by
  rcases y4 with ⟨h0,_⟩ | h0
  ·rw [h0] at e5;exact nn e5
  ·exact h0
 rw [e5] at y5;obtain rfl:=Option.some.inj y5
 have hnt:=g2.hr.nt (List.mem_of_getElem? e3)
 have hor:OR K ρ2 h' ad (.ns (nsPut p.2 k v)):=by
  refine ⟨_,y7,fun z hz=>?_,fun j w hj=>?_⟩
  ·by_cases hzk:z=atn k
   ·rw [hzk];exact atn_mem hk2
   ·rw [if_neg hzk] at hz;exact e8 z hz
  ·rw [nsPut_lookup] at hj
   by_cases hjk:j=k
   ·subst hjk
    rw [if_pos rfl] at hj;refine siE hj ?_
    exact ⟨hk2,cv,if_pos rfl,rv2.but hnt hkk⟩
   ·rw [if_neg hjk] at hj
    refine rAEA (fun hj2 cw z1 z2=>?_) (e9 j w hj)
    exact ⟨hj2,cw,by rw [if_neg fun e=>hjk (atn_inj hj2 hk2 e)];exact z1,z2.but hnt hkk⟩
 have st3:Step ρ2 ⟨hh,gg,dr,t,os⟩ ρ2 ⟨h',gg,dr,tk',os⟩:=Step.set (s:=⟨hh,gg,dr,t,os⟩) (List.mem_of_getElem? e3) hkk
 have st:=g.st.trans st3
 exact ⟨ρ2,g2.hr.setO i2 e3 hor hkk,st.toX _,fo.step hr st,trivial⟩
theorem ps_raise (G : GK K T) (X : EK K T) (hh : A.handled = none) {x : Str} {np cpos pos : Pos} {sv : Str} {n1 : Nat} {p1 : Pos} {k : Nat} (hg : isGlob c x = true) (hk : T.excs.lookup x = some k) :
  PS K A T env c cl (.Raise (some (.Call (.Name x np) [.Constant (.str sv) n1 p1] [] cpos)) none pos) (.raise k):=by
 intro ℓ σ f ℓ' σ' he ρ s hr fo
 refine p3E he ?_
 refine rEEEEEEAAA (fun C B newId initId bmB mg' hC FB hbB O=>?_) (X.at_ x k hk)
 refine rEEEEEEEEEEEEEEEEEAAA (fun bm N nm q bs hdct sn sub ab col dd k0 k1 k2 k3 k5 mN hCo hN hq TQ=>?_) O.obj
 refine rEAA (fun mg hmg u2_ hex=>?_) G.g2
 refine rEEAA (fun u0_ mb0 u2_ hmb0 u4_=>?_) G.g
 simp only [isGlob,Bool.and_eq_true,beq_iff_eq,Bool.not_eq_true'] at hg
 refine wpAny_Raise_call_subT FB (C:=C) (N:=N) (mN:=mN) (nm:=nm) (q:=q) (bs:=bs) (bm:=bm) (hdct:=hdct) (sn:=sn) (sub:=sub) (ab:=ab) (col:=col) (dd:=dd) (k0:=k0) (k1:=k1) (k2:=k2) (k3:=k3) (k5:=k5) (TQ.tail.hasType hbB) hh rfl (hq _ (.head _)) ?_
 have fin : wpAny K.M A (evalArgs (.ref C) true (backTo cpos (starEach [.Constant (.str sv) n1 p1] env)) [])
   (fun a s₂=>a.kw=[]∧a.pos.length≤sizeLine∧s₂.heap.get? C=some (excClassObj nm q C N bs bm hdct sn sub ab col dd k0 k1 k2 k3 k5 newId)∧s₂.heap.Ns N mN∧OwnTail s₂.heap bmB bm∧
    ∀h' e,Heap.MadeExcOf s₂.heap h' e (.ref C) a.pos→∃j,Fl.exc k=.exc j∧Up K A T env c ρ s σ j ℓ (.ref e) { s₂ with heap:=h' }) (fun ev s'=>∃j,Fl.exc k=.exc j∧Up K A T env c ρ s σ j ℓ ev s') s:=by
  have hc:cEs T c [.Constant (.str sv) n1 p1]=some (.cons (.lit (.str sv)) .nil):=rfl
  rw [back_all hc]
  refine evalArgs_list (args_run (cl:=⟨⟨fun u_=>none,fun u_ v_=>none,fun u_=>none⟩,fun u_ v_ w_=>none⟩) (pos:=cpos) hc (pes_cons rfl (pe_const rfl) pes_nil) (ℓ:=ℓ) (σ:=σ) (σ1:=σ) (vs:=[.str sv]) rfl hr fo fun ρ1 cvs s1 g1 rvs=>?_)
  have hl:=rvs.length
  refine ⟨rfl,(by show cvs.length≤sizeLine;rw [← hl,sizeLine_eq];exact Nat.le_of_ble_eq_true rfl),g1.hr.keep _ _ hCo,hN.keeps g1.hr.keep,TQ.tail.keeps g1.hr.keep,fun h' e hm=>⟨k,rfl,g1.st.gens,g1.st.os,ρ1,fun outer hf=>.inr ⟨fun h0=>(by rw [h0] at hk;exact nn hk),s1.heap,e,_,rfl,fo.step hr g1.st,g1.hr,(g1.st.toX _).heap,hC ▸ hm⟩⟩⟩
 rcases hex x k hk with hv | ⟨hv,mb,hmb,hv2⟩
 ·exact glob_load hr fo hg.1 hg.2 hmg hmb0 (.inl hv) ⟨hC,fin⟩
 ·exact glob_load hr fo hg.1 hg.2 hmg hmb (.inr ⟨hv,hv2⟩) ⟨hC,fin⟩
theorem FO.mark (hd:Option Value) (x:FO K A env c ℓ ρ h):FO K (A.mark hd) env c ℓ ρ h:=⟨x.kind,x.names,x.glob,x.blts,x.ns,x.cell,x.inj,x.capart,x.lnew,x.free,x.lt,x.ff,x.cnew⟩
theorem FO.unmark {hd:Option Value} (x:FO K (A.mark hd) env c ℓ ρ h):FO K A env c ℓ ρ h:=⟨x.kind,x.names,x.glob,x.blts,x.ns,x.cell,x.inj,x.capart,x.lnew,x.free,x.lt,x.ff,x.cnew⟩
theorem exm_fit (X : EK K T) {x : Str} {k j : Nat} (hk : T.excs.lookup x = some k) (hsub : excSub j k = true) (keep : ∀ b o, K.h0.get? b = some o → s.heap.get? b = some o) {e : Addr} {oe : Obj} (hoe : s.heap.get? e = some oe) (hoec : oe.cls = K.tyv j)
  {Q:Bool→Shared→Prop}{E:Value→Shared→Prop}{A:Around} (hR:Q true s):wpAny K.M A (excMatches (.ref e) (K.tyv k)) Q E s:=by
 refine rA (fun hO0 hmt=>?_) (X.sub x k j hk hsub);revert hO0;refine rE fun yn hyn=>?_
 refine rEEEEEEAAA (fun Cj Bj newIdj initIdj bmBj mgj hCj FBj hbBj Oj=>?_) (X.at_ yn j hyn)
 refine rEEEEEEAAA (fun Ck Bk newIdk initIdk bmBk mgk hCk FBk hbBk Ok=>?_) (X.at_ x k hk)
 refine rEEEEEEEEEEEEEEEEEA (fun bmj Nj nmj qj bsj hdj snj subj abj colj ddj a0 a1 a2 a3 a5 mNj oj u18_=>?_) Oj.obj
 refine rEEEEEEEEEEEEEEEEEAAA (fun bmk Nk nmk qk bsk hdk snk subk abk colk ddk b0 b1 b2 b3 b5 mNk ok u18_ u19_ TQk=>?_) Ok.obj
 refine rEEAA (fun om cdm m1 m2 m3=>?_) (hmt Cj Ck hCj hCk)
 rw [oj] at m1;cases m1;cases m2
 rw [hCj] at hoec
 rw [hCk]
 exact exm_sub (keep _ _ oj) (keep _ _ ok) hoe hoec (TQk.tail.hasType hbBk) m3 hR
theorem load_exc (G : GK K T) {A : Around} {env : Env} {c : CEnv} {x : Str} {np : Pos} {k : Nat} (hg : isGlob c x = true) (hk : T.excs.lookup x = some k) (hr : HR K ρ σ s.heap) (fo : FO K A env c ℓ ρ s.heap) (Q : Value → Shared → Prop) (E : Value → Shared → Prop)
  (hq:Q (K.tyv k) s):wpAny K.M A (eval (.Name x np) env) Q E s:=by
 refine rEAA (fun mg hmg u2_ hex=>?_) G.g2
 refine rEEAA (fun u0_ mb0 u2_ hmb0 u4_=>?_) G.g
 simp only [isGlob,Bool.and_eq_true,beq_iff_eq,Bool.not_eq_true'] at hg
 rcases hex x k hk with hv | ⟨hv,mb,hmb,hv2⟩
 ·exact glob_load hr fo hg.1 hg.2 hmg hmb0 (.inl hv) hq
 ·exact glob_load hr fo hg.1 hg.2 hmg hmb (.inr ⟨hv,hv2⟩) hq
end
noncomputable def Kx.at_ (K:Kx) (h:Heap) (a:Addr) (j:Nat):Kx:={ K with h0:=hideAll h ((List.range h.objs.size).filter fun b=>(K.h0.get? b).isNone && !(b == a)),tyv:=fun t=>if t=100 + j then .ref a else K.tyv t,ex:=some (100 + j) }
mutual
noncomputable def clean (n:Nat):V→Bool
 | .obj k=>decide (k < n)
 | .tup l=>cleans n l
 | .ty t=>decide (t < 100)
 | _=>true
noncomputable def cleans (n:Nat):List V→Bool
 | []=>true
 | v::r=>clean n v && cleans n r
end
theorem cleans_ints (n:Nat) (l:List Int):cleans n (l.map V.int)=true:=by
 induction l with
 | nil=>rfl
 | cons x r ih=>exact and_i rfl ih
section
variable {K:Kx}{h:Heap}{a:Addr}{j:Nat}
theorem at_old (kp:∀b o,K.h0.get? b=some o→h.get? b=some o) {b:Addr}{o:Obj} (e:K.h0.get? b=some o):(K.at_ h a j).h0.get? b=some o:=by
 refine hideAll_get _ (kp b o e) fun hm=>?_
 have:=(List.mem_filter.mp hm).2
 rw [e] at this;exact ft this
theorem at_new {o:Obj} (e:h.get? a=some o):(K.at_ h a j).h0.get? a=some o:=by
 refine hideAll_get _ e fun hm=>?_
 have:=and_r (List.mem_filter.mp hm).2
 simp at this
theorem at_inv (kp:∀b o,K.h0.get? b=some o→h.get? b=some o) {b:Addr}{o:Obj} (e:(K.at_ h a j).h0.get? b=some o):K.h0.get? b=some o∨(b=a∧h.get? a=some o):=by
 have eh:=of_hideAll _ e
 cases q:K.h0.get? b with
 | some o'=>have:=kp b o' q;rw [eh] at this;exact .inl this.symm
 | none=>
  by_cases hb:b=a
  ·exact .inr ⟨hb,hb ▸ eh⟩
  ·have hm:b∈(List.range h.objs.size).filter fun b=>(K.h0.get? b).isNone && !(b == a):=List.mem_filter.mpr ⟨List.mem_range.mpr (Heap.lt_size eh),by rw [q];simp [hb]⟩
   have:=hideAll_none (h:=h) _ hm
   have e:(hideAll h ((List.range h.objs.size).filter fun b=>(K.h0.get? b).isNone && !(b == a))).get? b=some o:=e
   rw [this] at e;exact nn e
theorem at_none (kp:∀b o,K.h0.get? b=some o→h.get? b=some o) {b:Addr} (e:K.h0.get? b=none) (hb:b≠a):(K.at_ h a j).h0.get? b=none:=by
 cases q:(K.at_ h a j).h0.get? b with
 | none=>rfl
 | some o=>
  rcases at_inv kp q with h | h
  ·rw [e] at h;exact nn h
  ·exact absurd h.1 hb
theorem at_none' (kp:∀b o,K.h0.get? b=some o→h.get? b=some o) {b:Addr} (e:(K.at_ h a j).h0.get? b=none):K.h0.get? b=none:=by
 cases q:K.h0.get? b with
 | none=>rfl
 | some o=>rw [at_old kp q] at e;exact ns e
theorem RV.at_ {g:Heap} (kp:∀b o,K.h0.get? b=some o→h.get? b=some o) (hK:K.ex=Option.none) {v:V}{x:Value} (r:RV K ρ g v x):RV (K.at_ h a j) ρ g v x :=
 RV.rec (motive_1:=fun v x u_=>RV (K.at_ h a j) ρ g v x) (motive_2:=fun l vs u_=>RVs (K.at_ h a j) ρ g l vs) .none .bool .int .str (fun e u_ n i=>.tup e i n) (fun e=>.obj e)
  (fun t ht=>by
   have hlt:t < 100:=ht.resolve_right (by rw [hK];exact fun e=>nn e)
   have e:(K.at_ h a j).tyv t=K.tyv t:=if_neg (by lia)
   rw [← e];exact .ty t (.inl hlt)) (fun e u_ n i=>.frz (at_old kp e) i n) .nil (fun u_ v_ i j=>.cons i j) r
theorem RVs.at_ {g:Heap} (kp:∀b o,K.h0.get? b=some o→h.get? b=some o) (hK:K.ex=Option.none) {l:List V}{vs:List Value} (r:RVs K ρ g l vs):RVs (K.at_ h a j) ρ g l vs :=
 RVs.ind (P:=fun l vs=>RVs (K.at_ h a j) ρ g l vs) .nil (fun r u_ i=>.cons (r.at_ kp hK) i) r
theorem RV.clean {g:Heap} (hK:K.ex=Option.none) {v:V}{x:Value} (r:RV K ρ g v x):Mini.Internal.clean ρ.length v=true :=
 RV.rec (motive_1:=fun v u_ v_=>Mini.Internal.clean ρ.length v=true) (motive_2:=fun l u_ v_=>cleans ρ.length l=true) rfl (fun u_=>rfl) (fun u_ v_=>rfl) (fun u_ v_=>rfl) (fun u_ v_ w_ i=>i) (fun e=>decide_eq_true (List.getElem?_eq_some_iff.mp e).1)
  (fun t ht=>decide_eq_true (ht.resolve_right (by rw [hK];exact fun e=>nn e))) (fun u_ v_ w_ x_=>rfl) rfl (fun u_ v_ i j=>and_i i j) r
theorem RVs.clean {g:Heap} (hK:K.ex=Option.none) {l:List V}{vs:List Value} (r:RVs K ρ g l vs):cleans ρ.length l=true :=
 RVs.ind (P:=fun l u_=>cleans ρ.length l=true) rfl (fun a u_ i=>and_i (a.clean hK) i) r
theorem get_pre {α:Type}{l l':List α} (hp:l <+: l') {n:Nat}{a:α} (hn:n < l.length) (e:l'[n]? = some a):l[n]? = some a:=by
 refine byC fun hX=>?_;revert hp;refine rE fun t hO1=>?_;obtain rfl:=hO1;refine hX ?_;clear hX
 rwa [List.getElem?_append_left hn] at e
theorem RV.back {g:Heap} (kp:∀b o,K.h0.get? b=some o→h.get? b=some o) {oa:Obj}{ws:Array Value} (ha:h.get? a=some oa) (hd:oa.data=.fields ws) (hp:ρ <+: ρ1) {v:V}{x:Value} (r:RV (K.at_ h a j) ρ1 g v x):Mini.Internal.clean ρ.length v=true→RV K ρ g v x :=
 RV.rec (motive_1:=fun v x u_=>Mini.Internal.clean ρ.length v=true→RV K ρ g v x) (motive_2:=fun l vs u_=>cleans ρ.length l=true→RVs K ρ g l vs) (fun u_=>.none) (fun b u_=>.bool b) (fun i t u_=>.int i t) (fun i t u_=>.str i t) (fun e u_ n i hb=>.tup e (i hb) n)
  (fun e hb=>.obj (get_pre hp (of_decide_eq_true hb) e))
  (fun t ht hb=>by
   have hlt:t < 100:=of_decide_eq_true hb
   have e:(K.at_ h a j).tyv t=K.tyv t:=if_neg (by lia)
   rw [e];exact .ty t (.inl hlt))
  (fun e u_ n i v_=>by
   rcases at_inv kp e with e | ⟨rfl,e⟩
   ·exact .frz e (i (cleans_ints _ _)) n
   ·rw [ha] at e;cases e;cases hd)
  (fun u_=>.nil) (fun u_ v_ i j hb=>.cons (i (and_l hb)) (j (and_r hb))) r
theorem RVs.back {g:Heap} (kp:∀b o,K.h0.get? b=some o→h.get? b=some o) {oa:Obj}{ws:Array Value} (ha:h.get? a=some oa) (hd:oa.data=.fields ws) (hp:ρ <+: ρ1) {l:List V}{vs:List Value} (r:RVs (K.at_ h a j) ρ1 g l vs):cleans ρ.length l=true→RVs K ρ g l vs :=
 RVs.ind (P:=fun l vs=>cleans ρ.length l=true→RVs K ρ g l vs) (fun u_=>.nil) (fun r u_ i hb=>.cons (r.back kp ha hd hp (and_l hb)) (i (and_r hb))) r
theorem HR.kat (hK:K.ex=Option.none) (hr:HR K ρ σ h) (ha:a ∉ ρ):HR (K.at_ h a j) ρ σ h:=by
 refine ⟨fun b o e=>of_hideAll _ e,hr.len,hr.nd,fun b hb=>at_none hr.keep (hr.new b hb) (fun e=>ha (e ▸ hb)),fun n o b h1 h2=>?_⟩
 have ho:=hr.obj n o b h1 h2
 cases o with
 | list l=>revert ho;refine rEEAA fun vs n0 e0 r0 hl=>?_;exact ⟨vs,n0,e0,r0.at_ hr.keep hK,hl⟩
 | inst c d=>exact ho
 | ns l=>revert ho;refine rEAA fun m h1 h2 h3=>?_;exact ⟨m,h1,h2,fun k v hv=>let ⟨q,cv,q1,q2⟩:=h3 k v hv;⟨q,cv,q1,q2.at_ hr.keep hK⟩⟩
theorem HR.back {h1:Heap} (hK:K.ex=Option.none) {oa:Obj}{ws:Array Value} (ha:h.get? a=some oa) (hd:oa.data=.fields ws) (hr:HR K ρ σ h) (hr1:HR (K.at_ h a j) ρ1 σ1 h1) (hp:ρ <+: ρ1) (ht:σ1.take σ.length=σ):HR K ρ σ h1:=by
 refine ⟨fun b o e=>hr1.keep b o (at_old hr.keep e),hr.len,hr.nd,hr.new,fun n o b g1 g2=>?_⟩
 have hn:=(List.getElem?_eq_some_iff.mp g1).1
 have g1':σ1[n]? = some o:=by
  rw [← ht,List.getElem?_take_of_lt hn] at g1;exact g1
 have ho:=hr1.obj n o b g1' (pre_get hp g2)
 have ho0:=hr.obj n o b g1 g2
 cases o with
 | list l=>
  revert ho0;refine rEEAA fun vs0 n0 e0 r0 u4_=>?_
  revert ho;refine rEEAA fun vs n1 e1 r1 hl=>?_
  exact ⟨vs,n1,e1,r1.back hr.keep ha hd hp (r0.clean hK),hl⟩
 | inst c d=>
  revert ho0;refine rEEEAAAAA fun u0_ u1_ u2_ u3_ u4_ u5_ u6_ u7_ q=>?_
  revert ho;refine rEEEAAAAA fun o C ad e1 e2 e3 e4 e5 e6=>?_
  exact ⟨o,C,ad,e1,e2,e3,e4,e5,get_pre hp (List.getElem?_eq_some_iff.mp q).1 e6⟩
 | ns l=>
  revert ho0;refine rEAA fun u0_ u1_ u2_ q=>?_
  revert ho;refine rEAA fun m e1 e2 e3=>?_
  refine ⟨m,e1,e2,fun k v hv=>?_⟩
  refine rAEA (fun hk cv h5 h6=>?_) (e3 k v hv)
  refine rAEA (fun u0_ u1_ u2_ h7=>?_) (q k v hv)
  exact ⟨hk,cv,h5,h6.back hr.keep ha hd hp (h7.clean hK)⟩
variable {A:Around}{env:Env}{c:CEnv}
theorem FF.kat (kp:∀b o,K.h0.get? b=some o→h.get? b=some o) (ff:FF K A ρ h) {oa:Obj}{ws:Array Value} (ha:h.get? a=some oa) (hd:oa.data=.fields ws):FF (K.at_ h a j) A ρ h:=fun fs hf e he=>by
 refine rAEEAAAA (fun h1 L o h2 h3 h4 h5 h6=>?_) (ff fs hf e he)
 refine ⟨h1,L,o,h2,h3,at_none kp h4 ?_,h5,h6⟩
 rintro rfl
 rw [ha] at h5;cases h5
 revert h6;refine rEE fun es ep q=>?_
 rw [hd] at q;cases q
theorem FO.kat (kp:∀b o,K.h0.get? b=some o→h.get? b=some o) (hK:K.ex=Option.none) (fo:FO K A env c ℓ ρ h) {oa:Obj}{ws:Array Value} (ha:h.get? a=some oa) (hd:oa.data=.fields ws) (hX:a ∉ frameX env):FO (K.at_ h a j) A env c ℓ ρ h:=by
 refine ⟨fo.kind,fo.names,fo.glob,fo.blts,?_,fun x hx=>?_,fo.inj,fo.capart,⟨fo.lnew.1,at_none kp fo.lnew.2 fun e=>hX (by rw [← e];exact List.mem_cons_self)⟩,fo.free,fo.lt,fo.ff.kat kp ha hd,fun x b hx=>?_⟩
 ·refine rEA (fun m hn hm=>?_) fo.ns
  exact ⟨m,hn,fun x i v h1 h2 h3=>let ⟨cv,g1,g2⟩:=hm x i v h1 h2 h3;⟨cv,g1,g2.at_ kp hK⟩⟩
 ·refine rEEAA (fun b o g1 g2 g3=>?_) (fo.cell x hx)
  exact ⟨b,o,g1,g2,fun i v h1 h2=>let ⟨cv,q1,q2⟩:=g3 i v h1 h2;⟨cv,q1,q2.at_ kp hK⟩⟩
 ·refine rAAA (fun g1 g2 g3 g4=>?_) (fo.cnew x b hx)
  exact ⟨g1,at_none kp g2 fun e=>hX (by rw [← e];exact List.mem_cons_of_mem _ (List.mem_map.mpr ⟨_,hx,rfl⟩)),g3,g4⟩
theorem FO.back {h1:Heap} (kp:∀b o,K.h0.get? b=some o→h.get? b=some o) (fo:FO (K.at_ h a j) A env c [] ρ1 h1) (hp:ρ <+: ρ1):FO K A env c [] ρ h1:=by
 have sub:∀{b:Addr},b ∉ ρ1→b ∉ ρ:=fun hb hm=>hb (hp.subset hm)
 refine ⟨fo.kind,fo.names,fo.glob,fo.blts,?_,fun x hx=>?_,fo.inj,fo.capart,⟨sub fo.lnew.1,at_none' kp fo.lnew.2⟩,fun i v u_ q=>by simp at q,fo.lt,fun fs hf e he=>?_,fun x b hx=>?_⟩
 ·refine rEA (fun m hn u2_=>?_) fo.ns
  exact ⟨m,hn,fun x i v h1 h2 h3=>by simp at h3⟩
 ·refine rEEAA (fun b o g1 g2 u4_=>?_) (fo.cell x hx)
  exact ⟨b,o,g1,g2,fun i v h1 h2=>by simp at h2⟩
 ·refine rAEEAAAA (fun q1 L o q2 q3 q4 q5 q6=>?_) (fo.ff fs hf e he)
  exact ⟨q1,L,o,q2,sub q3,at_none' kp q4,q5,q6⟩
 ·refine rAAA (fun g1 g2 g3 g4=>?_) (fo.cnew x b hx)
  exact ⟨sub g1,at_none' kp g2,g3,g4⟩
end
noncomputable def HCall (K:Kx) (A:Around) (cl:Cl) (f:Nat):Prop :=
 ∀(h:Heap) (a:Addr) (j:Nat) (oa:Obj) (ws:Array Value),h.get? a=some oa→oa.data=.fields ws→ws[2]? = some .none→oa.cls=K.tyv j→j < 100→(∀b o,K.h0.get? b=some o→h.get? b=some o)→
  ∀v σ σ',cl.call f [.ty (100 + j)] σ=some (.ok v,σ')→∀ρ s,HR (K.at_ h a j) ρ σ s.heap→FF (K.at_ h a j) (A.mark (some (.ref a))) ρ s.heap→
   TR (K.at_ h a j) (A.mark (some (.ref a))) (call (.ref (K.fna f)) [.ref a]) ρ s σ' fun ρ' cv s'=>RV (K.at_ h a j) ρ' s'.heap v cv
section
variable {K:Kx}{A:Around}{env:Env}{c:CEnv}{cl:Cl}{T:Tabs}
theorem GK.kat {a:Addr}{j:Nat} (G:GK K T) (kp:∀b o,K.h0.get? b=some o→h.get? b=some o):GK (K.at_ h a j) T:=by
 have k:∀b o,K.h0.get? b=some o→(K.at_ h a j).h0.get? b=some o:=fun b o e=>at_old kp e
 have ty:∀t,t < 100→(K.at_ h a j).tyv t=K.tyv t:=fun t ht=>if_neg (by lia)
 refine ⟨?_,?_,G.lt⟩
 ·refine rEEAAAA (fun mg mb h1 h2 h3 h4 h5=>?_) G.g
  refine ⟨mg,mb,h1.keeps k,h2.keeps k,fun x t ht=>?_,fun x n hn=>?_,h5⟩
  ·rw [ty t (G.lt x t (.inl ht))];exact h3 x t ht
  ·refine rAEEA (fun g1 o fd g2 g3=>?_) (h4 x n hn)
   exact ⟨g1,o,fd,k _ _ g2,g3⟩
 ·refine rEAA (fun mg h1 h2 h3=>?_) G.g2
  refine ⟨mg,h1.keeps k,h2,fun x t ht=>?_⟩
  rw [ty t (G.lt x t (.inr ht))]
  rcases h3 x t ht with h | ⟨h,mb,hb,hm⟩
  ·exact .inl h
  ·exact .inr ⟨h,mb,hb.keeps k,hm⟩
theorem caughtC_inv {y : Y} {k i : Nat} {g : Nat → H → X V} {f : Fl} (h : caughtC y k i g = some (f, ℓ', σ')) : (y = some (f, ℓ', σ') ∧ ∀ i, f ≠ .exc i) ∨
  ∃j ℓ1 w τ,y=some (.exc j,ℓ1,σ')∧excSub j k=true∧j < 100∧i < ℓ1.length∧g j σ'=some (.ok (.str w),τ)∧τ.take σ'.length=σ'∧f=.ret (.str w)∧ℓ'=[]:=by
 cases y with
 | none=>exact nn h
 | some z=>
  refine byC fun hX=>?_;obtain ⟨f1,ℓ1,σ1⟩:=z;refine hX ?_;clear hX
  cases f1 with
  | exc j=>
   refine ite_e ((show (if (excSub j k=true∧j < 100)∧i < ℓ1.length then backStr σ1 (g j σ1) else .none)=some (f,ℓ',σ') from h)) fun hs h1=>?_
   refine bokY_e ((show bokY (g j σ1) _=_ from h1)) fun v τ h2 h3=>?_
   refine bind_e (h3) fun w hw h4=>?_
   refine ite_e (h4) fun ht h5=>?_
   refine p3E h5 ?_
   have hv:v=.str w:=by
    cases v with
    | str w'=>refine siE (show some w'=some w from hw) ?_;rfl
    | _=>exact nn hw
   rw [hv] at h2
   exact .inr ⟨j,ℓ1,w,τ,rfl,hs.1.1,hs.1.2,hs.2,h2,ht,rfl,rfl⟩
  | _=>refine p3E h ?_;exact .inl ⟨rfl,fun i e=>by cases e⟩
theorem name_goes {n : Str} {pos : Pos} (hl : c.names.lookup n = some .local) (fo : FO K A env c ℓ ρ s.heap) (hr : HR K ρ σ s.heap) {Q : Unit → Shared → Prop} {E : Value → Shared → Prop}
  (hq:∀s',HR K ρ σ s'.heap→StepX (frameX env) ρ s ρ s'→FO K A env c [] ρ s'.heap→Q () s'):wpAny K.M A (do bindName env n .none;unbindBehindTheSuite env n pos) Q E s:=by
 refine rEA (fun m hn u2_=>?_) fo.ns
 refine wpAny_nameGoes (show env.scope.names.lookup n=_ by rw [fo.names];exact hl) hn (by rw [fo.kind];rfl) fun h' m' hn' hs'=>?_
 have hnt:=Ns.not_tup hn
 have hbut:∀b o,b≠env.locals→s.heap.get? b=some o→h'.get? b=some o:=fun b o hb e=>(hs'.2 b hb).trans e
 refine hq _ (hr.but fo.lnew.1 fo.lnew.2 hnt hbut) ⟨List.prefix_refl _,fun b o e u_ hX=>ng_keep1 (fun o e=>hbut b o (fun e'=>hX (by rw [e'];exact List.mem_cons_self)) e) e,fun u_ h=>.inl h,rfl,rfl⟩ ?_
 refine ⟨fo.kind,fo.names,fo.glob,fo.blts,⟨_,hn',fun y j w h1 h2 h3=>nn h3⟩,fun y hy=>?_,fo.inj,fo.capart,fo.lnew,fun j w hj h3=>nn h3,fo.lt,fo.ff.ns (fun b hb o e=>hbut b o hb e) hn',fun y a hy=>?_⟩
 ·refine rEEAA (fun a o g1 g2 u4_=>?_) (fo.cell y hy)
  exact ⟨a,o,g1,IsCell.at g2 fun o e=>hbut _ _ (fo.cnew y a (mem_of_lookup g1)).2.2.1 e,fun j w h2 h3=>nn h3⟩
 ·refine rAAAEA (fun g1 g2 g3 o g4 g5=>?_) (fo.cnew y a hy)
  exact ⟨g1,g2,g3,o,hbut _ _ g3 g4,g5⟩
theorem handled_runN {A : Around} {env : Env} {e0 : Addr} {cv : Value} {t : Expr} {n : Str} {h0 : Stmt} {suite : List Stmt} {p1 : Pos} {Q : Flow → Shared → Prop} {E : Value → Shared → Prop} 
  (hl:∀(Q:Value→Shared→Prop) (E:Value→Shared→Prop),Q cv s→wpAny K.M (A.mark (some (.ref e0))) (eval t env) Q E s)
  (hm:∀(Q:Bool→Shared→Prop) (E:Value→Shared→Prop),Q true s→wpAny K.M (A.mark (some (.ref e0))) (excMatches (.ref e0) cv) Q E s)
  (hr:∀(E1 E2 E3:Value→Shared→Prop),wpAny K.M (A.mark (some (.ref e0))) (setFlight (.ref e0) none) (fun u_ s₁=>wpAny K.M (A.mark (some (.ref e0))) (storeName env n (.ref e0)) (fun u_ s₂=>
   wpAny K.M (A.mark (some (.ref e0))) (PySem.execs (h0::suite) env) (fun f s₃=>wpAny K.M A (do bindName env n .none;unbindBehindTheSuite env n p1) (fun u_ s₄=>Q f s₄) E3 s₃) (fun u_ v_=>False) s₂) E2 s₁) E1 s) :
  wpAny K.M A (handleBy (.ref e0) env [.ExceptHandler (some t) (some n) (h0::suite) p1]) Q E s :=
 wpAny_handleBy_cons (codeAny_handlers_test (hl _ _ (hm _ _ (codeAny_handlers_suite_as (wpAny_mono (hr _ _ _) (fun u_ v_ h=>wpAny_mono h (fun u_ v_ h=>wpAny_mono h (fun u_ v_ q=>q) fun u_ v_ f=>f.elim) fun u_ v_ q=>q) fun u_ v_ q=>q))))) (by intro q;cases q)
theorem cName_local {n:Str}{i:Nat} (hn:cVar c n=some i) (hl:c.names.lookup n=some .local):cName T c n=some (.var i):=by
 unfold cName
 rw [hl]
 show (cVar c n).map Ex.var=_
 rw [hn];rfl
open Classical in
noncomputable def onlyCl (cl:Cl) (f j:Nat):Cl:=⟨cl.pg,fun g vs σ=>if g=f∧vs=[.ty (100 + j)] then (match cl.call g vs σ with | some (.ok v,σ')=>some (.ok v,σ') | _=>.none) else .none⟩
theorem only_ok {a:Addr}{j f:Nat}{oa:Obj}{ws:Array Value} (hc:HCall K A cl f) (h1:h.get? a=some oa) (h2:oa.data=.fields ws) (h3:ws[2]? = some .none) (h4:oa.cls=K.tyv j) (h5:j < 100) (kp:∀b o,K.h0.get? b=some o→h.get? b=some o):CallOK (K.at_ h a j) (A.mark (some (.ref a))) (onlyCl cl f j):=by
 intro g vs σ v σ' he ρ s cvs hr rvs ff
 refine rA (fun hO0 he2=>?_) (ite_some he);obtain ⟨hg,hvs⟩:=hO0
 clear he
 subst hg hvs
 have he:cl.call g [.ty (100 + j)] σ=some (.ok v,σ'):=by
  cases q:cl.call g [.ty (100 + j)] σ with
  | none=>rw [q] at he2;exact nn he2
  | some z=>
   refine byC fun hX=>?_;obtain ⟨r,τ⟩:=z;refine hX ?_;clear hX
   rw [q] at he2
   cases r with
   | ok v'=>exact he2
   | exc k=>exact nn he2
 refine rEEAA (fun x xs hO2 r1 r2=>?_) rvs.consI;refine eqS hO2 ?_
 obtain rfl:=r2.nilI
 refine byC fun hX=>?_;refine rA (fun hO0 u1_=>?_) (r1.tyI rfl);obtain rfl:=hO0;refine hX ?_;clear hX
 have e:(K.at_ h a j).tyv (100 + j)=.ref a:=if_pos rfl
 rw [e]
 exact hc h a j oa ws h1 h2 h3 h4 h5 kp v σ σ' he ρ s hr ff
set_option tactic.hygienic true in
theorem ps_tryH (G : GK K T) (X : EK K T) (hK : K.ex = none) (hfr : ∃ outer, A.frames = some (env :: outer)) {b : List Stmt} {pos p1 np fp ap cp rp : Pos} {x n fn : Str} {k i f : Nat} {xb : Ss} (hg : isGlob c x = true) (hk : T.excs.lookup x = some k)
  (hn:cVar c n=some i) (hnl:c.names.lookup n=some .local) (hgf:isGlob c fn=true) (hf:T.fns.lookup fn=some f) (hb:PSs K A (tryT T) env c cl b xb) (hc:HCall K A cl f) :
  PS K A T env c cl (.Try b [.ExceptHandler (some (.Name x np)) (some n) [.Return (some (.Call (.Name fn fp) [.Name n ap] [] cp)) rp] p1] [] [] pos) (.try_ xb k i f):=by
 intro ℓ σ fl ℓ' σ' he ρ s hr fo
 have he:=caughtC_inv (show caughtC (execs cl xb ℓ σ) k i (fun j σ1=>cl.call f [.ty (100 + j)] σ1)=some (fl,ℓ',σ') from he)
 revert hfr;refine rE fun outer hfr=>?_
 refine rAEEA (fun u0_ L u2_ hfL u4_=>?_) (fo.ff _ hfr env List.mem_cons_self)
 refine ts_gen fun Q E hQ=>wpAny_Try_except ?_
 rcases he with ⟨h1,hnx⟩ | ⟨j,ℓ1,w,τ,h1,hsub,hj,hi,hcall,ht,rfl,rfl⟩
 ·refine wpAny_mono (hb ℓ σ fl ℓ' σ' h1 ρ s hr fo) (fun cf s1 hq=>hq.elim fun ρ1 q=>?_) fun ev s1 hq=>hq.elim fun i hi=>absurd hi.1 (hnx i)
  have hq:=hQ ρ1 cf s1 q.1 q.2.1 q.2.2.1 q.2.2.2
  cases cf with
  | next=>exact wpAny_execs_nil hq
  | _=>exact hq
 ·refine wpAny_mono (hb ℓ σ _ ℓ1 σ' h1 ρ s hr fo) (fun cf s1 hq=>hq.elim fun u_ q=>by cases cf <;> exact False.elim q.2.2.2) fun ev s1 hq=>?_
  revert hq;refine rEAAAE fun i' hi' hgens hos ρ1 hu=>?_
  obtain rfl:j=i':=by cases hi';rfl
  rcases hu outer hfr with fl | ⟨h0,_⟩
  rotate_left
  ·exact absurd rfl h0
  revert fl;refine rEEEEAAAAAAAA fun G0 B tt e hO4 hP hrG stG hB hB0 hus fw nc=>?_;refine eqS hO4 ?_
  have fly:∀{h6:Heap},G0.UpToSlots h6→Heap.FlyingW B (env::outer) e (K.tyv j) (.ref tt) h6→NoCtx h6 e→Fly K (frameX env) ρ s ρ1 σ' (env::outer) (K.tyv j) (FO K A env c ℓ1 ρ1) (.ref e) h6:=fun hs6 hf6 n6=>⟨G0,B,tt,e,rfl,hP,hrG,stG,hB,hB0,hs6,hf6,n6⟩
  refine wpAny_mono (Safe.any (safe_noteFrame (.ref e) env) (e:=e) (Q:=fun u_ s'=>∃h4,s' = { s1 with heap:=h4 }∧Heap.HeldW B (env::outer) e (K.tyv j) (.ref tt) L h4∧s1.heap.UpToSlots h4) (E:=fun u_ v_=>False) (wpAny_looks_onW hfr hfL fw fun h4 a b=>⟨h4,rfl,a,b⟩) nc) (fun u_ s4 hq=>?_) fun u_ v_ h=>h.1.elim
  revert hq;refine rA fun hO0 n4=>?_;obtain ⟨h4,rfl,hheld4,hsm4⟩:=hO0
  refine wpAny_mono (Safe.any (safe_setFlight (.ref e) none) (e:=e) (Q:=fun u_ s'=>∃h5,s' = { s1 with heap:=h5 }∧Heap.FlyingW B (env::outer) e (K.tyv j) (.ref tt) h5∧h4.UpToSlots h5) (E:=fun u_ v_=>False) (wpAny_landsW (s:={ s1 with heap:=h4 }) hheld4 fun h5 a b=>⟨h5,rfl,a,b⟩) n4) (fun u_ s5 hq=>?_) fun u_ v_ h=>h.1.elim
  revert hq;refine rA fun hO0 n5=>?_;obtain ⟨h5,rfl,hfl5,hsm5⟩:=hO0
  have hus5:=(hus.trans hsm4).trans hsm5
  have b5:=Fly.good (s1:={ s1 with heap:=h5 }) (fly hus5 hfl5 n5) hgens hos
  refine handled_runN (cv:=K.tyv k) (s:={ s1 with heap:=h5 }) (load_exc G hg hk b5.1 (b5.2.2.mark _)) (fun Q E hR=>hfl5.there.elim fun oe ho=>exm_fit X hk hsub (s:={ s1 with heap:=h5 }) b5.1.keep ho.1 ho.2 hR) fun E1 E2 E3=>?_
  refine wpAny_mono (Safe.any (safe_setFlight (.ref e) none) (e:=e) (Q:=fun u_ s'=>∃h6,s' = { s1 with heap:=h6 }∧Heap.FlyingW B (env::outer) e (K.tyv j) (.ref tt) h6∧h5.UpToSlots h6) (E:=fun u_ v_=>False) (lands_againW (s:={ s1 with heap:=h5 }) hfl5 fun h6 a b=>⟨h6,rfl,a,b⟩) n5) (fun u_ s6 hq=>?_) fun u_ v_ h=>h.1.elim
  revert hq;refine rA fun hO0 n6=>?_;obtain ⟨h6,rfl,hfl6,hsm6⟩:=hO0
  have hus6:=hus5.trans hsm6
  have b6:=Fly.good (s1:={ s1 with heap:=h6 }) (fly hus6 hfl6 n6) hgens hos
  revert n6;refine rEEAA fun oe ws g1 g2 g3=>?_
  have hG:G0.get? e=none:=by
   cases q:G0.get? e with
   | none=>rfl
   | some o=>
    by_cases hc:dy o
    ·refine rEE (fun es ep hd'=>?_) (id hc)
     refine rE (fun sl e1=>?_) (hus6 e o q fun vs hv=>by rw [hd'] at hv;cases hv)
     rw [g1] at e1;cases e1;rw [g2] at hd';cases hd'
    ·have:=hB e o q hc
     rw [hfl6.2.1] at this;exact nn this
  have hna:e ∉ ρ1:=fun hm=>by refine rEA (fun ob q u2_=>?_) (hrG.at_ hm);rw [hG] at q;exact nn q
  have hcls:oe.cls=K.tyv j:=by
   refine rEA (fun ob q1 q2=>?_) hfl6.there
   rw [g1] at q1;cases q1;exact q2
  have hX:e ∉ frameX env:=fun hm=>by refine rE (fun o q=>?_) (hP.X_some e hm);rw [hG] at q;exact nn q
  have kp:=b6.1.keep
  have hr6:HR (K.at_ h6 e j) ρ1 σ' h6:=b6.1.kat hK hna
  have fo6:FO (K.at_ h6 e j) (A.mark (some (.ref e))) env c ℓ1 ρ1 h6:=FO.kat kp hK (b6.2.2.mark _) g1 g2 hX
  have hset:setL ℓ1 i (.ty (100 + j))=some (ℓ1.set i (some (.ty (100 + j)))):=if_pos hi
  have et:(K.at_ h6 e j).tyv (100 + j)=.ref e:=if_pos rfl
  have rve:RV (K.at_ h6 e j) ρ1 h6 (.ty (100 + j)) (.ref e):=by rw [← et];exact .ty _ (.inr rfl)
  refine store_sound (K:=K.at_ h6 e j) (s:={ s1 with heap:=h6 }) fo6 hr6 hn hset rve fun s7 a ha hr7 st7 fo7=>?_
  have hp:PE (K.at_ h6 e j) (A.mark (some (.ref e))) env c (onlyCl cl f j) (.Call (.Name fn fp) [.Name n ap] [] cp) (.call f (.cons (.var i) .nil)):=by
   refine pe_call (G.kat kp) (only_ok hc g1 g2 g3 hcls hj kp) hgf hf ?_ (pes_cons rfl (pe_var hn) pes_nil)
   show (cName T c n).bind _=_
   rw [cName_local hn hnl];rfl
  have hev:evalE (onlyCl cl f j) (.call f (.cons (.var i) .nil)) (ℓ1.set i (some (.ty (100 + j)))) σ'=some (.ok (.str w),τ):=by
   have hv:evalE (onlyCl cl f j) (.var i) (ℓ1.set i (some (.ty (100 + j)))) σ'=some (.ok (.ty (100 + j)),σ'):=by
    show okX ((ℓ1.set i (some (.ty (100 + j))))[i]?.join) σ'=_
    rw [List.getElem?_set_self hi];rfl
   have hvs:evalEs (onlyCl cl f j) (.cons (.var i) .nil) (ℓ1.set i (some (.ty (100 + j)))) σ'=some (.ok [.ty (100 + j)],σ'):=by
    show bok (evalE (onlyCl cl f j) (.var i) _ σ') _=_
    rw [hv];rfl
   show bok (evalEs (onlyCl cl f j) (.cons (.var i) .nil) _ σ') _=_
   rw [hvs]
   refine (if_pos ⟨rfl,rfl⟩).trans ?_
   rw [hcall]
  refine wpAny_execs_cons (wpAny_Return_some (wpAny_mono (hp _ σ' (.str w) τ hev ρ1 s7 hr7 fo7) (fun cv s8 hq=>?_) fun u_ v_ f=>f))
  revert hq;refine rEA fun ρ8 g8 rv8=>?_
  refine rE (fun tk hO1=>?_) (rv8.strI rfl);refine eqS hO1 ?_
  have fo8:=fo7.step hr7 g8.st
  refine name_goes (K:=K.at_ h6 e j) hnl fo8.unmark g8.hr fun s9 hr9 st9 fo9=>?_
  have st7':=b6.2.1.then b6.2.2 (st7.weaken (own_X ha))
  have stA:=(st7'.then (K:=K.at_ h6 e j) fo7 (g8.st.toX _)).then (K:=K.at_ h6 e j) fo8 st9
  exact hQ ρ1 (.ret (.str w tk)) s9 (HR.back hK g1 g2 b6.1 hr9 g8.st.pre ht) ⟨b6.2.1.pre,stA.fr,b6.2.1.fresh,stA.gens,stA.os⟩ (fo9.back kp g8.st.pre) (.str w tk)
end
end Mini.Internal
namespace Mini.Internal
open PySem PyProof.Rows PySem.SeqAt
variable {ρ ρ' ρ1:List Addr}{σ σ' σ1:H}{s s' s1:Shared}{h h':Heap}{ℓ ℓ':L}
structure HX (K:Kx) (A:Around) (cl:Cl) (T:Tabs):Prop where
 hy:Hy K A cl T
 cx:T.loops=true→CallX K A cl
 ek:EK K T
 kx:T.loops=true→K.ex=none
 hc:T.loops=true→∀f,T.fns.lookup T.hf=some f→HCall K A cl f
section
variable {K:Kx}{A:Around}{cl:Cl}{T:Tabs}
theorem HX.try_ (x:HX K A cl T):HX K A cl (tryT T) where
 hy:=⟨⟨x.hy.G.g,let ⟨mg,h1,h2,_⟩:=x.hy.G.g2;⟨mg,h1,h2,fun u_ v_ h=>by exact nn h⟩,fun y t h=>x.hy.G.lt y t (h.elim .inl fun h=>by exact nn h)⟩,x.hy.ty,x.hy.hu,x.hy.on,x.hy.sort,⟨x.hy.wk.cls,x.hy.wk.tyb,x.hy.wk.attr⟩,x.hy.qb,x.hy.hd⟩
 cx:=x.cx
 ek:=⟨fun u_ v_ h=>(by exact nn h),fun u_ v_ w_ h=>(by exact nn h)⟩
 kx:=x.kx
 hc:=x.hc
theorem quiet_blt {x:Str}{b:Blt} (h:(quiet T).blts.lookup x=some b):T.blts.lookup x=some b∧(b=.isinstance∨b=.len):=by
 refine rA (fun h1 h2=>?_) (List.mem_filter.mp (mem_of_lookup h))
 refine ⟨of_decide_eq_true (by simpa using h2),?_⟩
 rcases List.mem_cons.mp h1 with e | h1
 ·exact .inl (congrArg Prod.snd e)
 ·exact .inr (congrArg Prod.snd (List.mem_singleton.mp h1))
theorem swaps_plain {e:Expr} (h:isComp e=false) (t:Option Expr) (l:Nat) (env:Env):swapsWith e t l env=pure false:=by
 cases e with
 | ListComp _ _ _ _=>exact tf h
 | SetComp _ _ _ _=>exact tf h
 | DictComp _ _ _ _ _=>exact tf h
 | _=>rfl
theorem swaps_comp (elt:Expr) (gens:List Comprehension) (sc:Scope) (p:Pos) (x:Str) (px:Pos) (l:Nat) (env:Env):∃b,swapsWith (.ListComp elt gens sc p) (some (.Name x px)) l env=pure b:=⟨_,rfl⟩
theorem s_asg (hx':HX K A cl T) {x:Str}{px pos:Pos}{v:Expr}{c:CEnv}{env:Env}{i:Nat}{a:Ex} (hx:cVar c x=some i) (h:cE T c v=some a):PS K A T env c cl (.Assign [.Name x px] v pos) (.asg (.one i) a):=by
 have hy:=hx'.hy
 have hp:PX K A env c cl v a:=sX hy hx'.cx h
 cases hc:isComp v with
 | false=>exact ps_asg (swaps_plain hc _ _ _) hx hp
 | true=>
  cases v with
  | ListComp elt gens sc p=>
   refine rE (fun b hb=>?_) (swaps_comp elt gens sc p x px pos.line env)
   cases b with
   | false=>exact ps_asg hb hx hp
   | true=>
    refine bind_e ((show (cGen T sc c gens).bind _=some a from h)) fun g h1 h2=>?_
    refine bind_e (h2) fun e h3 h4=>?_
    refine ite_e (h4) fun hok h5=>?_
    refine siE h5 ?_
    refine byC fun hX=>?_;obtain ⟨y,py,iter,fs,rfl,hloc,hv,hI,hfold,hF,hHH⟩:=sG hy sc gens c env g h1;refine hX ?_;clear hX
    exact ps_asg_comp hHH (compOK_of hok) hfold hv hloc hI (fun cenv=>(sE hy elt _ cenv e h3).1) hF hb hx
  | SetComp _ _ _ _=>exact nn h
  | DictComp _ _ _ _ _=>exact nn h
  | _=>exact ft hc
theorem ps_mute {env:Env}{c:CEnv}{st:Stmt}{a:St} (h:∀ℓ σ f ℓ' σ',exec cl a ℓ σ=some (f,ℓ',σ')→False):PS K A T env c cl st a:=fun ℓ σ f ℓ' σ' he=>(h ℓ σ f ℓ' σ' he).elim
theorem s_iter (hy:Hy K A cl T) {e:Expr}{c:CEnv}{env:Env}{it:It} (h:cIter T c e=some it):PI K A env c cl e it∧∀v,foldedSetIterable e env v=pure v:=by
 rcases iter_inv h with hR | ⟨a,ha,rfl⟩
 ·exact ⟨sR hy e c env _ hR,folded_R hR env⟩
 ·exact ⟨pi_ex (sE hy e c env a ha).1,folded_of ha env⟩
theorem cThree_inv {c:CEnv}{es:List Expr}{k:Nat×Nat×Nat} (h:cThree c es=some k):∃x p y q z u,es=[.Name x p,.Name y q,.Name z u]∧cVar c x=some k.1∧cVar c y=some k.2.1∧cVar c z=some k.2.2:=by
 cases es with
 | nil=>exact nn h
 | cons a r=>
  cases r with
  | nil=>exact nn h
  | cons b r=>
   cases r with
   | nil=>exact nn h
   | cons d r=>
    refine ite_e ((show (if r.isEmpty then _ else Option.none)=some k from h)) fun h0 h1=>?_
    refine bind_e (h1) fun i h2 h3=>?_
    refine bind_e (h3) fun j h4 h5=>?_
    refine byC fun hX=>?_;obtain ⟨n,h6,rfl⟩:=Option.map_eq_some_iff.mp h5;refine hX ?_;clear hX
    refine bind_e (h2) fun x hx g1=>?_
    refine bind_e (h4) fun y hy g2=>?_
    refine bind_e (h6) fun z hz g3=>?_
    refine byC fun hX=>?_;refine rE (fun p hO1=>?_) (nameIs_inv hx);obtain rfl:=hO1;refine hX ?_;clear hX
    refine byC fun hX=>?_;refine rE (fun q hO1=>?_) (nameIs_inv hy);obtain rfl:=hO1;refine hX ?_;clear hX
    refine byC fun hX=>?_;refine rE (fun u hO1=>?_) (nameIs_inv hz);obtain rfl:=hO1;refine hX ?_;clear hX
    obtain rfl:=List.isEmpty_iff.mp h0
    exact ⟨x,p,y,q,z,u,rfl,g1,g2,g3⟩
theorem s_to (hx':HX K A cl T) {ts:List Expr}{v:Expr}{c:CEnv}{env:Env}{p:Pos}{x:Ex}{a:St} (hx:cE T c v=some x) (h:cAsg T c v x ts=some a):PS K A T env c cl (.Assign ts v p) a:=by
 have hy:=hx'.hy
 cases ts with
 | nil=>exact nn h
 | cons t ts=>
  refine ite_e ((show (if ts.isEmpty then cTo T c v x t else .none)=some a from h)) fun h1 h2=>?_
  refine eqS (List.isEmpty_iff.mp h1) ?_
  cases t with
  | Name n px=>
   refine map_e ((show (cVar c n).map _=some a from h2)) fun i hi=>?_
   exact s_asg hx' hi hx
  | Attribute o m px=>
   refine bind_e ((show (cE T c o).bind _=some a from h2)) fun y h3 h4=>?_
   refine bind_e (h4) fun k hk h5=>?_
   refine ite_e (h5) fun u0_ h6=>?_
   refine siE h6 ?_
   exact ps_aset hy.wk hk (sX hy hx'.cx hx) (sE hy o c env y h3).1
  | Tuple es k px=>
   refine ite_e ((show (if T.loops && !isTup v then (cThree c es).map _ else .none)=some a from h2)) fun hl h3=>?_
   refine map_e (h3) fun q hq=>?_
   refine byC fun hX=>?_;refine rEEEEEEAAA (fun x1 p1 x2 p2 x3 p3 hO6 g1 g2 g3=>?_) (cThree_inv hq);obtain rfl:=hO6;refine hX ?_;clear hX
   have hnt:∀es k p,v≠.Tuple es k p:=fun es k p e=>by
    have:=and_r hl
    rw [e] at this;exact ft this
   exact ps_three hnt (ptg_three (hy.on (and_l hl)).1 g1 g2 g3) (sX hy hx'.cx hx)
  | Subscript o m px=>
   refine bind_e ((show (cE T c o).bind _=some a from h2)) fun y u1_ h3=>?_
   refine map_e (h3) fun k u1_=>?_
   exact ps_mute fun ℓ σ f ℓ' σ' he=>by exact nn he
  | _=>exact nn h2
theorem isStrE_inv {e:Expr} (h:isStrE e=true):∃sv n p,e=.Constant (.str sv) n p:=by
 refine Classical.byContradiction fun hX=>?_
 cases e with
 | Constant k n p=>
  cases k with
  | str sv=>exact hX ⟨sv,n,p,rfl⟩
  | _=>exact ft h
 | _=>exact ft h
theorem oneStr_inv {as:List Expr} (h:oneStr as=true):∃sv n p,as=[.Constant (.str sv) n p]:=by
 cases as with
 | nil=>exact ft h
 | cons a r=>
  have h:(isStrE a && r.isEmpty)=true:=h
  refine rEEE (fun sv n p hO3=>?_) (isStrE_inv (and_l h));refine eqS hO3 ?_
  obtain rfl:=List.isEmpty_iff.mp (and_r h)
  exact ⟨sv,n,p,rfl⟩
theorem cRaiseE_inv {c:CEnv}{x:Expr}{a:St} (h:cRaiseE T c x=some a):∃f as ks q,x=.Call f as ks q∧((nameIs f).bind fun x=>if isGlob c x && oneStr as && ks.isEmpty && T.loops then (T.excs.lookup x).map .raise else .none)=some a:=by
 refine Classical.byContradiction fun hX=>?_
 cases x with
 | Call f as ks q=>exact hX ⟨f,as,ks,q,rfl,h⟩
 | _=>exact nn h
theorem s_raise (hx:HX K A cl T) {e k:Option Expr}{c:CEnv}{env:Env}{p:Pos}{a:St} (h:cRaise T c e k=some a):PS K A T env c cl (.Raise e k p) a:=by
 refine ite_e ((show (if k.isNone then e.bind (cRaiseE T c) else .none)=some a from h)) fun hk h1=>?_
 obtain rfl:=Option.isNone_iff_eq_none.mp hk
 refine rEA (fun x hO1 h2=>?_) (Option.bind_eq_some_iff.mp h1);refine eqS hO1 ?_
 refine byC fun hX=>?_;refine rEEEEA (fun f as ks q hO4 h2=>?_) (cRaiseE_inv h2);obtain rfl:=hO4;refine hX ?_;clear hX
 refine bind_e (h2) fun n hn h3=>?_
 refine ite_e (h3) fun hb h4=>?_
 refine map_e (h4) fun t ht=>?_
 refine byC fun hX=>?_;refine rE (fun np hO1=>?_) (nameIs_inv hn);obtain rfl:=hO1;refine hX ?_;clear hX
 obtain rfl:=List.isEmpty_iff.mp (and_r (and_l hb))
 refine byC fun hX=>?_;refine rEEE (fun sv n1 p1 hO3=>?_) (oneStr_inv (and_r (and_l (and_l hb))));obtain rfl:=hO3;refine hX ?_;clear hX
 exact ps_raise hx.hy.G hx.ek (hx.hy.on (and_r hb)).1 (and_l (and_l (and_l hb))) ht
theorem cHead_inv {c:CEnv}{t:Option Expr}{n:Option Str}{k:Nat×Nat} (h:cHead T c t n=some k):∃x np m,t=some (.Name x np)∧isGlob c x=true∧T.excs.lookup x=some k.1∧n=some m∧cVar c m=some k.2∧c.names.lookup m=some .local:=by
 refine bind_e (h) fun x hx h1=>?_
 refine byC fun hX=>?_;refine rEA (fun e hO1 he=>?_) (Option.bind_eq_some_iff.mp hx);obtain rfl:=hO1;refine hX ?_;clear hX
 refine byC fun hX=>?_;refine rE (fun np hO1=>?_) (nameIs_inv he);obtain rfl:=hO1;refine hX ?_;clear hX
 refine ite_e (h1) fun hg h2=>?_
 refine bind_e (h2) fun j hj h3=>?_
 refine bind_e (h3) fun m hm h4=>?_
 refine ite_e (h4) fun hl h5=>?_
 refine byC fun hX=>?_;obtain ⟨i,hi,rfl⟩:=Option.map_eq_some_iff.mp h5;refine hX ?_;clear hX
 exact ⟨x,np,m,rfl,hg,hj,hm,hi,hl⟩
theorem cRetF_inv {c:CEnv}{n:Str}{st:Stmt}{f:Nat} (h:cRetF T c n st=some f):∃fn fp ap cp rp,st=.Return (some (.Call (.Name fn fp) [.Name n ap] [] cp)) rp∧isGlob c fn=true∧fn=T.hf∧T.fns.lookup fn=some f:=by
 cases st with
 | Return v rp=>
  refine byC fun hX=>?_;refine rEA (fun e hO1 h1=>?_) (Option.bind_eq_some_iff.mp (show v.bind _=some f from h));obtain rfl:=hO1;refine hX ?_;clear hX
  cases e with
  | Call g as ks cp=>
   refine bind_e ((show (nameIs g).bind _=some f from h1)) fun fn hf h2=>?_
   refine ite_e (h2) fun hb h3=>?_
   refine byC fun hX=>?_;refine rE (fun fp hO1=>?_) (nameIs_inv hf);obtain rfl:=hO1;refine hX ?_;clear hX
   have b1:=and_l hb
   have b2:=and_l b1
   have b3:=and_l b2
   obtain rfl:=List.isEmpty_iff.mp (and_r b3)
   cases as with
   | nil=>exact ft (and_r b2)
   | cons a r=>
    cases r with
    | cons _ _=>have h:=and_r b2;simp at h
    | nil=>
     have ha:nameIs a=some n:=by have:=and_r b1;simpa using this
     refine byC fun hX=>?_;refine rE (fun ap hO1=>?_) (nameIs_inv ha);obtain rfl:=hO1;refine hX ?_;clear hX
     exact ⟨fn,fp,ap,cp,rp,rfl,and_l b3,beq_iff_eq.mp (and_r hb),h3⟩
  | _=>exact nn h1
 | _=>exact nn h
theorem cHs_inv {c:CEnv}{hs:List ExceptHandler}{y:Nat×Nat×Nat} (h:cHs T c hs=some y):∃x np n fn fp ap cp rp p1,hs=[.ExceptHandler (some (.Name x np)) (some n) [.Return (some (.Call (.Name fn fp) [.Name n ap] [] cp)) rp] p1]∧isGlob c x=true∧T.excs.lookup x=some y.1∧cVar c n=some y.2.1∧c.names.lookup n=some .local∧isGlob c fn=true∧fn=T.hf∧T.fns.lookup fn=some y.2.2:=by
 cases hs with
 | nil=>exact nn h
 | cons g hs=>
  refine byC fun hX=>?_;obtain ⟨t,n,b,p1⟩:=g;refine hX ?_;clear hX
  refine ite_e ((show (if hs.isEmpty then _ else Option.none)=some y from h)) fun h0 h1=>?_
  refine bind_e (h1) fun k hk h2=>?_
  refine byC fun hX=>?_;obtain ⟨f,hf,rfl⟩:=Option.map_eq_some_iff.mp h2;refine hX ?_;clear hX
  obtain rfl:=List.isEmpty_iff.mp h0
  refine byC fun hX=>?_;refine rEEEAAAAA (fun x np m hO3 g1 g2 hO6 g3 g4=>?_) (cHead_inv hk);obtain rfl:=hO3;obtain rfl:=hO6;refine hX ?_;clear hX
  cases b with
  | nil=>exact nn hf
  | cons st r=>
   refine ite_e ((show (if r.isEmpty then (some m).bind fun n=>cRetF T c n st else .none)=some f from hf)) fun h3 h4=>?_
   obtain rfl:=List.isEmpty_iff.mp h3
   refine byC fun hX=>?_;refine rEEEEEAAA (fun fn fp ap cp rp hO5 g5 g6 g7=>?_) (cRetF_inv h4);obtain rfl:=hO5;refine hX ?_;clear hX
   exact ⟨x,np,m,fn,fp,ap,cp,rp,p1,rfl,g1,g2,g3,g4,g5,g6,g7⟩
theorem s_for (hx:HX K A cl T) (hl:T.loops=true) {t i:Expr}{c:CEnv}{env:Env}{x:Ss→St}{b:List Stmt}{z:Ss}{p:Pos} (h:cFor T c t i=some x) (hb:PSs K A T env c cl b z):PS K A T env c cl (.For t i b [] p) (x z):=by
 cases t with
 | Name n px=>
  refine bind_e ((show (cVar c n).bind _=some x from h)) fun k hk h1=>?_
  refine rEA (fun y hy hO2=>?_) (Option.map_eq_some_iff.mp h1);refine eqE hO2 ?_
  exact ps_for (hx.hy.on hl).1 (s_iter (env:=env) hx.hy hy).2 (ptg_one hk) (s_iter hx.hy hy).1 hb
 | _=>exact nn h
end
section
variable {K:Kx}{cl:Cl}
mutual
theorem sSt:∀(st:Stmt) (A:Around) (T:Tabs) (hx:HX K A cl T) (c:CEnv) (env:Env) (hfr:∃outer,A.frames=some (env::outer)) (a:St),cSt T c st=some a→PS K A T env c cl st a
 | .Expr e p,A,T,hx,c,env,hfr,a,h=>by
  refine rA (fun h1 h2=>?_) (ite_none (show (if isComp e then .none else (cE T c e).map St.expr)=some a from h))
  refine map_e (h2) fun x hx'=>?_
  exact ps_expr (Bool.not_eq_true _ ▸ h1) (sX hx.hy hx.cx hx')
 | .Assign ts v p,A,T,hx,c,env,hfr,a,h=>by
  refine bind_e ((show (cE T c v).bind _=some a from h)) fun x hx' h1=>?_
  exact s_to hx hx' h1
 | .Return v p,A,T,hx,c,env,hfr,a,h=>by
  cases v with
  | none=>refine siE h ?_;exact ps_ret0
  | some e=>
   refine map_e ((show (cE T c e).map _=some a from h)) fun x hx'=>?_
   exact ps_ret (sX hx.hy hx.cx hx')
 | .If t x y p,A,T,hx,c,env,hfr,a,h=>by
  refine bind_e ((show (cE T c t).bind _=some a from h)) fun a' h1 h2=>?_
  refine bind_e (h2) fun b' h3 h4=>?_
  refine map_e (h4) fun d' h5=>?_
  exact ps_if (sE hx.hy t c env _ h1).2 (sSs x A T hx c env hfr _ h3) (sSs y A T hx c env hfr _ h5)
 | .For t i b o p,A,T,hx,c,env,hfr,a,h=>by
  refine ite_e ((show (if o.isEmpty∧T.loops then _ else Option.none)=some a from h)) fun h0 h1=>?_
  refine bind_e (h1) fun x h2 h3=>?_
  refine rEA (fun z h6 hO2=>?_) (Option.map_eq_some_iff.mp h3);refine eqE hO2 ?_
  refine eqS (List.isEmpty_iff.mp h0.1) ?_
  exact s_for hx h0.2 h2 (sSs b A T hx c env hfr _ h6)
 | .While t b o p,A,T,hx,c,env,hfr,a,h=>by
  refine ite_e ((show (if o.isEmpty then _ else Option.none)=some a from h)) fun h0 h1=>?_
  refine bind_e (h1) fun x h2 h3=>?_
  refine map_e (h3) fun y h4=>?_
  refine eqS (List.isEmpty_iff.mp h0) ?_
  exact ps_while (sE hx.hy t c env _ h2).2 (sSs b A T hx c env hfr _ h4)
 | .Break p,A,T,hx,c,env,hfr,a,h=>by refine siE h ?_;exact ps_brk
 | .Pass p,A,T,hx,c,env,hfr,a,h=>by refine siE h ?_;exact ps_pass
 | .Raise e k p,A,T,hx,c,env,hfr,a,h=>s_raise hx h
 | .Try b hs o f p,A,T,hx,c,env,hfr,a,h=>by
  refine ite_e ((show (if o.isEmpty∧f.isEmpty∧T.loops then _ else Option.none)=some a from h)) fun h0 h1=>?_
  refine bind_e (h1) fun x h2 h3=>?_
  refine map_e (h3) fun y h4=>?_
  obtain rfl:=List.isEmpty_iff.mp h0.1
  obtain rfl:=List.isEmpty_iff.mp h0.2.1
  have hb:=sSs b A (tryT T) hx.try_ c env hfr _ h2
  refine byC fun hX=>?_;obtain ⟨xn,np,n,fn,fp,ap,cp,rp,p1,rfl,g1,g2,g3,g4,g5,g6,g7⟩:=cHs_inv h4;refine hX ?_;clear hX
  exact ps_tryH hx.hy.G hx.ek (hx.kx h0.2.2) hfr g1 g2 g3 g4 g5 g7 hb (hx.hc h0.2.2 _ (g6 ▸ g7))
 | .FunctionDef ..,A,T,hx,c,env,hfr,a,h=>by exact nn h
 | .AsyncFunctionDef ..,A,T,hx,c,env,hfr,a,h=>by exact nn h
 | .ClassDef ..,A,T,hx,c,env,hfr,a,h=>by exact nn h
 | .Delete ..,A,T,hx,c,env,hfr,a,h=>by exact nn h
 | .TypeAlias ..,A,T,hx,c,env,hfr,a,h=>by exact nn h
 | .AugAssign ..,A,T,hx,c,env,hfr,a,h=>by exact nn h
 | .AnnAssign ..,A,T,hx,c,env,hfr,a,h=>by exact nn h
 | .AsyncFor ..,A,T,hx,c,env,hfr,a,h=>by exact nn h
 | .With ..,A,T,hx,c,env,hfr,a,h=>by exact nn h
 | .AsyncWith ..,A,T,hx,c,env,hfr,a,h=>by exact nn h
 | .Match ..,A,T,hx,c,env,hfr,a,h=>by exact nn h
 | .TryStar ..,A,T,hx,c,env,hfr,a,h=>by exact nn h
 | .Assert ..,A,T,hx,c,env,hfr,a,h=>by exact nn h
 | .Import ..,A,T,hx,c,env,hfr,a,h=>by exact nn h
 | .ImportFrom ..,A,T,hx,c,env,hfr,a,h=>by exact nn h
 | .Global ..,A,T,hx,c,env,hfr,a,h=>by exact nn h
 | .Nonlocal ..,A,T,hx,c,env,hfr,a,h=>by exact nn h
 | .Continue ..,A,T,hx,c,env,hfr,a,h=>by exact nn h
theorem sSs:∀(ss:List Stmt) (A:Around) (T:Tabs) (hx:HX K A cl T) (c:CEnv) (env:Env) (hfr:∃outer,A.frames=some (env::outer)) (a:Ss),cSs T c ss=some a→PSs K A T env c cl ss a
 | [],A,T,hx,c,env,hfr,a,h=>by refine siE h ?_;exact pss_nil
 | s::r,A,T,hx,c,env,hfr,a,h=>by
  refine bind_e ((show (cSt T c s).bind _=some a from h)) fun x h1 h2=>?_
  refine map_e (h2) fun y h3=>?_
  exact pss_cons (sSt s A T hx c env hfr _ h1) (sSs r A T hx c env hfr _ h3)
end
end
theorem RV.under {K:Kx}{v:V}{x:Value} (r:RV K ρ h v x):Mini.Internal.below ρ.length v=true :=
 RV.rec (motive_1:=fun v u_ v_=>Mini.Internal.below ρ.length v=true) (motive_2:=fun l u_ v_=>Mini.Internal.belows ρ.length l=true) rfl (fun u_=>rfl) (fun u_ v_=>rfl) (fun u_ v_=>rfl) (fun u_ v_ w_ i=>i) (fun e=>decide_eq_true (List.getElem?_eq_some_iff.mp e).1) (fun u_ v_=>rfl) (fun u_ v_ w_ x_=>rfl) rfl (fun u_ v_ i j=>and_i i j) r
theorem RVs.under {K:Kx}{l:List V}{vs:List Value} (r:RVs K ρ h l vs):Mini.Internal.belows ρ.length l=true :=
 RVs.ind (P:=fun l u_=>Mini.Internal.belows ρ.length l=true) rfl (fun a u_ i=>and_i a.under i) r
theorem belows_ints (n:Nat) (l:List Int):belows n (l.map V.int)=true:=by
 induction l with
 | nil=>rfl
 | cons x r ih=>exact and_i rfl ih
theorem pre_get_lt {α:Type}{l l':List α} (hp:l <+: l') {n:Nat}{a:α} (hn:n < l.length) (e:l'[n]? = some a):l[n]? = some a:=by
 refine byC fun hX=>?_;revert hp;refine rE fun t hO1=>?_;obtain rfl:=hO1;refine hX ?_;clear hX
 rwa [List.getElem?_append_left hn] at e
theorem RV.cut {K:Kx} (hp:ρ <+: ρ1) {v:V}{x:Value} (r:RV K ρ1 h v x):Mini.Internal.below ρ.length v=true→RV K ρ h v x :=
 RV.rec (motive_1:=fun v x u_=>Mini.Internal.below ρ.length v=true→RV K ρ h v x) (motive_2:=fun l vs u_=>Mini.Internal.belows ρ.length l=true→RVs K ρ h l vs) (fun u_=>.none) (fun b u_=>.bool b) (fun i t u_=>.int i t) (fun i t u_=>.str i t) (fun e u_ n i hb=>.tup e (i hb) n)
  (fun e hb=>.obj (pre_get_lt hp (of_decide_eq_true hb) e)) (fun t ht u_=>.ty t ht) (fun e u_ n i v_=>.frz e (i (belows_ints _ _)) n) (fun u_=>.nil) (fun u_ v_ i j hb=>.cons (i (and_l hb)) (j (and_r hb))) r
theorem RVs.cut {K:Kx} (hp:ρ <+: ρ1) {l:List V}{vs:List Value} (r:RVs K ρ1 h l vs):Mini.Internal.belows ρ.length l=true→RVs K ρ h l vs :=
 RVs.ind (P:=fun l vs=>Mini.Internal.belows ρ.length l=true→RVs K ρ h l vs) (fun u_=>.nil) (fun a u_ i hb=>.cons (a.cut hp (and_l hb)) (i (and_r hb))) r
theorem HR.cut {K:Kx}{h1:Heap} (hr:HR K ρ σ h) (hr1:HR K ρ1 σ1 h1) (hp:ρ <+: ρ1) (ht:σ1.take σ.length=σ):HR K ρ σ h1:=by
 refine ⟨hr1.keep,hr.len,hr.nd,hr.new,fun n o a h1 h2=>?_⟩
 have hn:=(List.getElem?_eq_some_iff.mp h1).1
 have h1':σ1[n]? = some o:=by
  rw [← ht,List.getElem?_take_of_lt hn] at h1;exact h1
 have ho:=hr1.obj n o a h1' (pre_get hp h2)
 have ho0:=hr.obj n o a h1 h2
 cases o with
 | list l=>
  revert ho0;refine rEEAA fun vs0 n0 e0 r0 u4_=>?_
  revert ho;refine rEEAA fun vs n1 e1 r1 hl=>?_
  exact ⟨vs,n1,e1,r1.cut hp r0.under,hl⟩
 | inst c d=>
  revert ho0;refine rEEEAAAAA fun u0_ u1_ ad0 u3_ u4_ u5_ u6_ u7_ q=>?_
  revert ho;refine rEEEAAAAA fun o C ad e1 e2 e3 e4 e5 e6=>?_
  exact ⟨o,C,ad,e1,e2,e3,e4,e5,pre_get_lt hp (List.getElem?_eq_some_iff.mp q).1 e6⟩
 | ns l=>
  revert ho0;refine rEAA fun u0_ u1_ u2_ q=>?_
  revert ho;refine rEAA fun m e1 e2 e3=>?_
  refine ⟨m,e1,e2,fun k v hv=>?_⟩
  refine rAEA (fun hk cv h5 h6=>?_) (e3 k v hv)
  refine rAEA (fun u0_ u1_ u2_ h7=>?_) (q k v hv)
  exact ⟨hk,cv,h5,h6.cut hp h7.under⟩
structure FnAt (K:Kx) (T:Tabs) (f:Nat) (F:Fn) (o:Obj) (fd:FuncData) (body:List Stmt) (xs:List Str):Prop where
 ho:K.h0.get? (K.fna f)=some o
 data:o.data=.func fd
 bodyE:fd.body=.stmts body
 clo:fd.closure=[]
 kind:fd.scope.kind=.function
 co:fd.scope.isCoroutine=false
 gen:fd.scope.isGenerator=false
 nd:(fd.scope.names.map (·.1)).Nodup
 glob:fd.globals=mainGlobals
 blts:fd.builtins=builtinsNs
 code:K.h0.CodeRec fd.code fd.qualname
 bind:∀vals:List Value,vals.length=xs.length→bindArgs fd ⟨vals,[]⟩=pure (xs.zip vals)
 ps:xs.mapM (fun x=>(slotsOf fd.scope.names).lookup x)=some F.ps
 comp:cSs T (fnC fd.scope) body=some F.body
 size:(ownOf fd.scope.names).length≤F.size
noncomputable def FnOK (K:Kx) (T:Tabs) (f:Nat) (F:Fn):Prop:=∃Tb o fd body xs,(Tb=T∨Tb=quiet T)∧FnAt K Tb f F o fd body xs
theorem slots_inv {names:List (Str×NameKind)}{x:Str}{i:Nat} (h:(slotsOf names).lookup x=some i):i < (ownOf names).length∧∃k,(ownOf names)[i]? = some (x,k):=by
 have hm:=mem_of_lookup h
 unfold slotsOf at hm
 refine rEA (fun hO0 h1 h2=>?_) (List.mem_map.mp hm);obtain ⟨hO0,j⟩:=hO0;obtain ⟨n,k⟩:=hO0
 refine piE h2 ?_
 refine rA (fun h3 h4=>?_) (List.mem_zipIdx' h1)
 exact ⟨h3,k,by rw [List.getElem?_eq_getElem h3,← h4]⟩
theorem slots_inj {names:List (Str×NameKind)}{x y:Str}{i:Nat} (h:(slotsOf names).lookup x=some i) (h':(slotsOf names).lookup y=some i):x=y:=by
 refine rAE (fun u0_ k e=>?_) (slots_inv h)
 refine rAE (fun u0_ k' e'=>?_) (slots_inv h')
 rw [e] at e';refine pE e' ?_;rfl
theorem slots_kind {names:List (Str×NameKind)}{x:Str}{i:Nat} (hn:(names.map (·.1)).Nodup) (h:(slotsOf names).lookup x=some i):names.lookup x=some .local∨names.lookup x=some .cell:=by
 refine rAE (fun u0_ k e=>?_) (slots_inv h)
 have hm:=List.mem_of_getElem? e
 unfold ownOf at hm
 refine rA (fun h1 h2=>?_) (List.mem_filter.mp hm)
 simp only [Bool.or_eq_true,beq_iff_eq] at h2
 have:=nodup_lookup hn h1
 rcases h2 with h2 | h2 <;> rw [h2] at this
 ·exact .inl this
 ·exact .inr this
theorem cells_keys:∀{names:List (Str×NameKind)}{n:Nat}{acc:List (Str×Addr)},(names.map (·.1)).Nodup→(acc.map (·.1)).Nodup→(∀x∈acc.map (·.1),x ∉ names.map (·.1))→((cellsFrom n names acc).map (·.1)).Nodup
 | [],_,_,_,h,_=>h
 | (y,k)::r,n,acc,hn,ha,hd=>by
  rw [List.map_cons,List.nodup_cons] at hn
  unfold cellsFrom
  split
  ·refine cells_keys hn.2 ?_ fun x hx=>?_
   ·rw [List.map_cons,List.nodup_cons]
    exact ⟨fun hm=>hd y hm (by simp),ha⟩
   ·rw [List.map_cons] at hx
    rcases List.mem_cons.mp hx with rfl | hx
    ·exact hn.1
    ·exact fun hm=>hd x hx (List.mem_cons_of_mem _ hm)
  ·exact cells_keys hn.2 ha fun x hx hm=>hd x hx (List.mem_cons_of_mem _ hm)
set_option tactic.hygienic true in
theorem cells_has:∀{names:List (Str×NameKind)}{n:Nat}{acc:List (Str×Addr)}{x:Str},((x,NameKind.cell)∈names∨x∈acc.map (·.1))→x∈(cellsFrom n names acc).map (·.1)
 | [],_,_,x,h=>by
  rcases h with h | h
  ·cases h
  ·exact h
 | (y,k)::r,n,acc,x,h=>by
  unfold cellsFrom
  split
  ·rename_i hk
   refine cells_has ?_
   rcases h with h | h
   ·rcases List.mem_cons.mp h with e | h
    ·refine byC fun hX=>?_;refine rA (fun hO0 hO1=>?_) (Prod.mk.inj e);obtain rfl:=hO0;obtain rfl:=hO1;refine hX ?_;clear hX;right;simp
    ·exact .inl h
   ·right;exact List.mem_cons_of_mem _ h
  ·rename_i hk
   refine cells_has ?_
   rcases h with h | h
   ·rcases List.mem_cons.mp h with e | h
    ·refine byC fun hX=>?_;refine rA (fun hO0 hO1=>?_) (Prod.mk.inj e);obtain rfl:=hO0;obtain rfl:=hO1;refine hX ?_;clear hX;simp at hk
    ·exact .inl h
   ·exact .inr h
section
variable {K:Kx}{A:Around}{T:Tabs}
set_option tactic.hygienic true in
theorem start_inv {names : List (Str × NameKind)} (kindOf : Str → Option NameKind) (hk : ∀ x, kindOf x = names.lookup x) (hnd : (names.map (·.1)).Nodup) :
  ∀(xs:List Str) (is:List Nat) (vs:List V) (cvs:List Value) (ℓ0 ℓ:L) (m cm:Str→Option Value),xs.mapM (fun x=>(slotsOf names).lookup x)=some is→setMany is vs ℓ0=some ℓ→RVs K ρ h vs cvs→
   (∀x (i:Nat) v,(slotsOf names).lookup x=some i→ℓ0[i]? = some (some v)→∃cv,(if names.lookup x=some .local then m x else cm x)=some cv∧RV K ρ h v cv)→
   xs.length=cvs.length∧∀x (i:Nat) v,(slotsOf names).lookup x=some i→ℓ[i]? = some (some v)→∃cv,(if names.lookup x=some .local then bindL kindOf (xs.zip cvs) m x else bindC kindOf (xs.zip cvs) cm x)=some cv∧RV K ρ h v cv
 | [],is,vs,cvs,ℓ0,ℓ,m,cm,h1,h2,h3,h4=>by
  simp only [List.mapM_nil] at h1
  obtain rfl:=Option.some.inj h1
  cases vs with
  | nil=>cases h3;obtain rfl:=Option.some.inj h2;exact ⟨rfl,h4⟩
  | cons _ _=>exact nn h2
 | x::xs,is,vs,cvs,ℓ0,ℓ,m,cm,h1,h2,h3,h4=>by
  rw [List.mapM_cons] at h1
  cases hs:(slotsOf names).lookup x with
  | none=>rw [hs] at h1;exact nn h1
  | some i=>
   rw [hs] at h1
   cases hr:xs.mapM (fun x=>(slotsOf names).lookup x) with
   | none=>rw [hr] at h1;exact nn h1
   | some is'=>
    rw [hr] at h1;obtain rfl:=Option.some.inj h1
    cases h3 with
    | nil=>exact nn h2
    | cons r rs=>
     rename_i v l cx cvs'
     simp only [setMany] at h2
     refine bind_e (h2) fun ℓ1 h5 h6=>?_
     refine rA (fun hi hset=>?_) (lookup_set h5)
     have hkx:=slots_kind hnd hs
     have ih:=start_inv kindOf hk hnd xs is' l cvs' ℓ1 ℓ (if kindOf x=some .local then fun y=>if y=x then some cx else m y else m) (if kindOf x=some .local then cm else fun y=>if y=x then some cx else cm y) hr h6 rs ?_
     ·refine ⟨by simp [ih.1],fun y j w g1 g2=>?_⟩
      have:=ih.2 y j w g1 g2
      simpa only [List.zip_cons_cons,bindL,bindC] using this
     ·intro y j w g1 g2
      rw [hset] at g2
      by_cases hj:j=i
      ·subst hj
       rw [if_pos rfl] at g2;cases g2
       obtain rfl:=slots_inj g1 hs
       refine ⟨cx,?_,r⟩
       rcases hkx with hkx | hkx
       ·rw [if_pos hkx,if_pos (by rw [hk];exact hkx)];simp
       ·have hne:¬ names.lookup y=some .local:=by rw [hkx];decide
        rw [if_neg hne,if_neg (by rw [hk];exact hne)];simp
      ·rw [if_neg hj] at g2
       have hyx:y≠x:=by rintro rfl;rw [g1] at hs;obtain rfl:=Option.some.inj hs;exact hj rfl
       refine rEA (fun cw e1 e2=>?_) (h4 y j w g1 g2)
       refine ⟨cw,?_,e2⟩
       rw [← e1]
       split
       ·split
        ·simp [hyx]
        ·rfl
       ·split
        ·rfl
        ·simp [hyx]
theorem start_free {n:Nat}:∀(is:List Nat) (vs:List V) (ℓ0 ℓ:L),setMany is vs ℓ0=some ℓ→(∀i∈is,i < n)→(∀(i:Nat) v,n≤i→ℓ0[i]?≠some (some v))→∀(i:Nat) v,n≤i→ℓ[i]?≠some (some v)
 | [],[],ℓ0,ℓ,h,_,h0=>by refine siE h ?_;exact h0
 | [],_::_,ℓ0,ℓ,h,_,_=>by exact nn h
 | _::_,[],ℓ0,ℓ,h,_,_=>by exact nn h
 | i::is,v::vs,ℓ0,ℓ,h,hlt,h0=>by
  simp only [setMany] at h
  refine bind_e (h) fun ℓ1 h5 h6=>?_
  refine rA (fun u0_ hset=>?_) (lookup_set h5)
  refine start_free is vs ℓ1 ℓ h6 (fun j hj=>hlt j (List.mem_cons_of_mem _ hj)) fun j w hj=>?_
  have:=hlt i List.mem_cons_self
  rw [hset,if_neg (by exact ln3 [(.le .v2 .v0),(.lt .v1 .v2)] (.no (.eq .v0 .v1)) (.d 11011) rfl hj this)]
  exact h0 j w hj
theorem mapM_mem {xs:List Str}{names:List (Str×NameKind)}:∀{is:List Nat},xs.mapM (fun x=>(slotsOf names).lookup x)=some is→∀i∈is,∃x∈xs,(slotsOf names).lookup x=some i:=by
 induction xs with
 | nil=>intro is h;simp only [List.mapM_nil] at h;refine siE h ?_;intro i hi;cases hi
 | cons x xs ih=>
  intro is h
  rw [List.mapM_cons] at h
  cases hs:(slotsOf names).lookup x with
  | none=>rw [hs] at h;exact nn h
  | some i=>
   rw [hs] at h
   cases hr:xs.mapM (fun x=>(slotsOf names).lookup x) with
   | none=>rw [hr] at h;exact nn h
   | some is'=>
    rw [hr] at h;refine siE h ?_
    intro j hj
    rcases List.mem_cons.mp hj with rfl | hj
    ·exact ⟨x,List.mem_cons_self,hs⟩
    ·refine rEA (fun y hy e=>?_) (ih hr j hj);exact ⟨y,List.mem_cons_of_mem _ hy,e⟩
theorem mapM_all {names:List (Str×NameKind)}:∀{xs:List Str}{is:List Nat},xs.mapM (fun x=>(slotsOf names).lookup x)=some is→∀x∈xs,∃i,(slotsOf names).lookup x=some i
 | [],_,_,x,hx=>by cases hx
 | y::xs,is,h,x,hx=>by
  rw [List.mapM_cons] at h
  cases hs:(slotsOf names).lookup y with
  | none=>rw [hs] at h;exact nn h
  | some i=>
   rw [hs] at h
   cases hr:xs.mapM (fun x=>(slotsOf names).lookup x) with
   | none=>rw [hr] at h;exact nn h
   | some is'=>
    rcases List.mem_cons.mp hx with rfl | hx
    ·exact ⟨i,hs⟩
    ·exact mapM_all hr x hx
end
section
variable {K:Kx}{A:Around}{T:Tabs}
theorem entry_FO {f : Nat} {F : Fn} {o : Obj} {fd : FuncData} {body : List Stmt} {xs : List Str} (x : FnAt K T f F o fd body xs) {as : List V} (hst : startL F as = some ℓ) (hr : HR K ρ σ s.heap) {cvs : List Value} (rvs : RVs K ρ s.heap as cvs) {a : Addr}
  (hin : InCallC s (callEnvC fd s.heap.objs.size a).locals (bindL (callEnvC fd s.heap.objs.size a).kindOf (xs.zip cvs) fun u_ => none) (callEnvC fd s.heap.objs.size a).cells
    (bindC (callEnvC fd s.heap.objs.size a).kindOf (xs.zip cvs) fun u_=>none) s1) (ff:FF K A ρ s.heap):FO K (A.deeper (callEnvC fd s.heap.objs.size a)) (callEnvC fd s.heap.objs.size a) (fnC fd.scope) ℓ ρ s1.heap:=by
 refine rA (fun f1 f2=>?_) (fresh_off hr)
 have hk:∀b o,s.heap.get? b=some o→s1.heap.get? b=some o:=hin.toInCall.keep
 have hnone:∀b:Addr,@LE.le Nat _ s.heap.objs.size b→b ∉ ρ∧K.h0.get? b=none:=by
  intro b hb
  have h0:s.heap.get? b=none:=by
   cases e:s.heap.get? b with
   | none=>rfl
   | some o=>have:=Heap.lt_size e;exact absurd hb (Nat.not_le.mpr this)
  refine ⟨fun hm=>?_,?_⟩
  ·refine rEA (fun ob e u2_=>?_) (hr.at_ hm);rw [h0] at e;exact nn e
  ·cases e:K.h0.get? b with
   | none=>rfl
   | some o=>rw [hr.keep _ _ e] at h0;cases h0
 have rv1:RVs K ρ s1.heap as cvs:=rvs.mono (List.prefix_refl _) fun b vs e=>hk _ _ e
 obtain ⟨hlen,hval⟩:=start_inv (K:=K) (names:=fd.scope.names) (ρ:=ρ) (h:=s1.heap) (callEnvC fd s.heap.objs.size a).kindOf (fun u_=>rfl) x.nd xs F.ps as cvs (List.replicate F.size .none) ℓ (fun u_=>none) (fun u_=>none) x.ps hst rv1 (fun y i v u_ h=>by
  rw [List.getElem?_replicate] at h;split at h <;> cases h)
 have hcells:(callEnvC fd s.heap.objs.size a).cells=cellsFrom (s.heap.objs.size + 1) fd.scope.names []:=rfl
 have hnd:(((callEnvC fd s.heap.objs.size a).cells).map (·.1)).Nodup:=by rw [hcells];exact cells_keys x.nd (by simp) (by simp)
 have hlook:∀y b,(y,b)∈(callEnvC fd s.heap.objs.size a).cells→(callEnvC fd s.heap.objs.size a).cells.lookup y=some b:=fun y b h=>nodup_lookup hnd h
 refine ⟨x.kind,rfl,x.glob,x.blts,⟨_,hin.toInCall.ns,fun y i v h1 h2 h3=>?_⟩,fun y hy=>?_,fun y z i=>slots_inj,fun y z b h1 h2=>name_of_addr hin.apart h1 h2,?_,?_,fun y i h=>(slots_inv h).1,?_,fun y b hb=>?_⟩
 ·have:=hval y i v h2 h3
  have h1':fd.scope.names.lookup y=some .local:=h1
  rw [if_pos h1'] at this
  exact this
 ·have hy':fd.scope.names.lookup y=some .cell:=hy
  have hm:=cells_has (n:=s.heap.objs.size + 1) (acc:=[]) (.inl (mem_of_lookup hy'))
  refine byC fun hX=>?_;refine rEA (fun hO0 hb hO2=>?_) (List.mem_map.mp hm);obtain ⟨y',b⟩:=hO0;obtain rfl:=hO2;refine hX ?_;clear hX
  refine ⟨b,_,hlook _ b hb,hin.cell _ b (hlook _ b hb),fun i v h2 h3=>?_⟩
  have:=hval _ i v h2 h3
  rw [if_neg (by rw [hy'];decide)] at this
  exact this
 ·exact hnone _ (Nat.le_refl _)
 ·refine start_free F.ps as _ ℓ hst (fun i hi => ?_) fun i v u_ h => by
   rw [List.getElem?_replicate] at h;split at h <;> cases h
  refine rEA (fun y u1_ e=>?_) (mapM_mem x.ps i hi)
  exact (slots_inv e).1
 ·intro fs hf env he
  refine mapn_e ((show A.frames.map _=some fs from hf)) fun fs0 h0 e0=>?_
  rw [← e0] at he
  rcases List.mem_cons.mp he with rfl | he
  ·refine rEEEAA (fun o' es ep e1 e2 u5_=>?_) hin.toInCall.ns
   refine rA (fun g1 g2=>?_) (hnone _ (Nat.le_refl _))
   exact ⟨by show fd.scope.kind≠.module;rw [x.kind];decide,s.heap.objs.size,o',rfl,g1,g2,e1,es,ep,e2⟩
  ·refine rAEEAAAA (fun q1 L o' q2 q3 q4 q5 q6=>?_) (ff fs0 h0 env he)
   exact ⟨q1,L,o',q2,q3,q4,hk _ _ q5,q6⟩
 ·have habove : @LT.lt Nat _ s.heap.objs.size b:=hin.above y b hb
  refine rA (fun h1 h2=>?_) (hnone b (Nat.le_of_lt habove))
  refine rEA (fun o' e' hd'=>?_) (hin.cell y b (hlook y b hb))
  exact ⟨h1,h2,Nat.ne_of_gt habove,o',e',fun xs n hv=>by rw [hv] at hd';cases hd'⟩
theorem gc_inv {m : Mode} {x : X V} {v : V} (h : gc m σ x = some (.ok v, σ')) : ∃ v1 σ1, x = some (.ok v1, σ1) ∧
  ((v=v1∧σ'=σ1)∨(σ1.take σ.length=σ∧below σ.length v1=true∧v=v1∧σ'=σ)∨(σ1.take σ.length=σ∧∃n l,v1=.obj n∧σ.length≤n∧σ1[n]? = some (.list l)∧belows σ.length l=true∧v=.obj σ.length∧σ'=σ++[.list l])):=by
 cases m with
 | raw=>exact ⟨v,σ',h,.inl ⟨rfl,rfl⟩⟩
 | pure=>
  refine rEA (fun p hx h=>?_) (Option.bind_eq_some_iff.mp (show x.bind _=_ from h));obtain ⟨r,σ1⟩:=p
  cases r with
  | ok v1=>refine rA (fun hc h=>?_) (ite_some (show gcP σ (.ok v1) σ1=_ from h));refine okE h ?_;exact ⟨_,_,hx,.inr (.inl ⟨hc.1,hc.2,rfl,rfl⟩)⟩
  | exc c=>exact seo (ite_some (show gcP σ (.exc c) σ1=_ from h)).2
 | fresh=>
  refine rEA (fun p hx h=>?_) (Option.bind_eq_some_iff.mp (show x.bind _=_ from h));obtain ⟨r,σ1⟩:=p
  cases r with
  | ok v1=>
   refine rEA (fun n hn h=>?_) (Option.bind_eq_some_iff.mp (show (objNo v1).bind _=_ from h))
   refine rA (fun ht h=>?_) (ite_some h)
   have hv:=objNo_inv hn
   by_cases hlt:n < σ.length
   ·rw [if_pos hlt] at h;refine okE h ?_;exact ⟨_,_,hx,.inr (.inl ⟨ht,by rw [hv];exact decide_eq_true hlt,hv.symm,rfl⟩)⟩
   ·rw [if_neg hlt] at h
    refine rEA (fun l hl h=>?_) (Option.bind_eq_some_iff.mp h)
    refine rA (fun hb h=>?_) (ite_some h)
    refine okE h ?_;exact ⟨_,_,hx,.inr (.inr ⟨ht,n,l,hv,Nat.le_of_not_lt hlt,lst_inv hl,hb,rfl,rfl⟩)⟩
  | exc c=>exact seo (ite_some (show gcF σ (.exc c) σ1=_ from h)).2
theorem gc_back {v1 : V} {cv : Value} (hr : HR K ρ σ s.heap) (hr1 : HR K ρ1 σ1 s1.heap) (st : Step ρ s ρ1 s1) (rv : RV K ρ1 s1.heap v1 cv) {m : Mode} {x : X V} {v : V} (hx : x = some (.ok v1, σ1)) (h : gc m σ x = some (.ok v, σ')) :
  ∃ρ',Good K ρ s ρ' σ' s1∧RV K ρ' s1.heap v cv:=by
 refine rEEA (fun v2 σ2 e h=>?_) (gc_inv h)
 rw [hx] at e;refine byC fun hX=>?_;refine rA (fun hO0 hO1=>?_) (okJ e);obtain rfl:=hO0;obtain rfl:=hO1;refine hX ?_;clear hX
 rcases h with ⟨rfl,rfl⟩ | ⟨ht,hb,rfl,rfl⟩ | ⟨ht,n,l,rfl,hn,hl,hb,rfl,rfl⟩
 ·exact ⟨ρ1,⟨hr1,st⟩,rv⟩
 ·refine ⟨ρ,⟨hr.cut hr1 st.pre ht,⟨List.prefix_refl _,st.fr,fun u_ h=>.inl h,st.gens,st.os⟩⟩,rv.cut st.pre (by rw [hr.len];exact hb)⟩
 ·refine byC fun hX=>?_;refine rEA (fun a hO1 ha=>?_) (rv.objI rfl);obtain rfl:=hO1;refine hX ?_;clear hX
  refine rEEAA (fun vs k e r hle=>?_) (hr1.obj n _ a hl ha)
  have hcut:=hr.cut hr1 st.pre ht
  have haρ:a ∉ ρ:=fun hm=>by
   refine rE (fun j hO1=>?_) (List.getElem_of_mem hm);obtain ⟨hj,e'⟩:=hO1
   have h2:ρ1[j]? = some a:=pre_get st.pre (by rw [List.getElem?_eq_getElem hj,e'])
   have:=(List.getElem?_inj (List.getElem?_eq_some_iff.mp h2).1 hr1.nd).mp (h2.trans ha.symm)
   rw [hr.len] at hj;lia
  refine ⟨ρ++[a],⟨⟨hr1.keep,by simp [hr.len],?_,fun b hb'=>?_,fun j o b h1 h2=>?_⟩,⟨List.prefix_append _ _,st.fr,fun b hb'=>?_,st.gens,st.os⟩⟩,.obj ?_⟩
  ·rw [List.nodup_append];exact ⟨hr.nd,by simp,fun b hb' z hz e=>by simp at hz;exact haρ (hz ▸ e ▸ hb')⟩
  ·rcases List.mem_append.mp hb' with h | h
   ·exact hr.new b h
   ·rw [List.mem_singleton.mp h];exact hr1.new a (List.mem_of_getElem? ha)
  ·by_cases hlt:j < σ.length
   ·rw [List.getElem?_append_left hlt] at h1
    rw [List.getElem?_append_left (by rw [hr.len];exact hlt)] at h2
    exact (hcut.obj j o b h1 h2).mono (List.prefix_append _ _) fun u_ v_ e=>e
   ·have hj':j=σ.length:=by have:=(List.getElem?_eq_some_iff.mp h1).1;simp at this;lia
    subst hj'
    rw [List.getElem?_append_right (Nat.le_refl _)] at h1
    rw [List.getElem?_append_right (by rw [hr.len];exact Nat.le_refl _)] at h2
    simp [hr.len] at h1 h2
    rw [← h1,← h2]
    exact ⟨vs,k,e,(r.cut st.pre (by rw [hr.len];exact hb)).mono (List.prefix_append _ _) (fun u_ v_ e=>e),hle⟩
  ·rcases List.mem_append.mp hb' with h | h
   ·exact .inl h
   ·rw [List.mem_singleton.mp h]
    rcases st.fresh a (List.mem_of_getElem? ha) with h | h
    ·exact .inl h
    ·exact .inr h
  ·rw [List.getElem?_append_right (by rw [hr.len];exact Nat.le_refl _),hr.len];simp
theorem gc_exc {m:Mode}{x:X V}{k:Nat} (h:gc m σ x=some (.exc k,σ')):∃σ1,x=some (.exc k,σ1)∧(σ'=σ1∨(σ1.take σ.length=σ∧σ'=σ)):=by
 cases m with
 | raw=>exact ⟨σ',h,.inl rfl⟩
 | pure=>
  refine rEA (fun p hx h=>?_) (Option.bind_eq_some_iff.mp (show x.bind _=_ from h));obtain ⟨r,σ1⟩:=p
  cases r with
  | ok v1=>exact soe (ite_some (show gcP σ (.ok v1) σ1=_ from h)).2
  | exc c=>refine rA (fun hc h=>?_) (ite_some (show gcP σ (.exc c) σ1=_ from h));refine exE h ?_;exact ⟨_,hx,.inr ⟨hc,rfl⟩⟩
 | fresh=>
  refine rEA (fun p hx h=>?_) (Option.bind_eq_some_iff.mp (show x.bind _=_ from h));obtain ⟨r,σ1⟩:=p
  cases r with
  | ok v1=>
   refine rEA (fun n hn h=>?_) (Option.bind_eq_some_iff.mp (show (objNo v1).bind _=_ from h))
   have h:=(ite_some h).2
   by_cases hlt:n < σ.length
   ·rw [if_pos hlt] at h;exact soe h
   ·rw [if_neg hlt] at h
    exact rEA (fun l hl h=>soe (ite_some h).2) (Option.bind_eq_some_iff.mp h)
  | exc c=>refine rA (fun hc h=>?_) (ite_some (show gcF σ (.exc c) σ1=_ from h));refine exE h ?_;exact ⟨_,hx,.inr ⟨hc,rfl⟩⟩
theorem Fly.back {X:List Addr} {outer : List Env} {cv ev : Value} {P : Heap → Prop} (hr : HR K ρ σ s.heap) (fl : Fly K X ρ s1 ρ' σ1 outer cv P ev h) (hs : ∀ G, StepX X ρ s1 ρ' { s1 with heap := G } → Step ρ s ρ' { s with heap := G })
  (hg:σ'=σ1∨(σ1.take σ.length=σ∧σ'=σ)):∃ρ2,Fly K [] ρ s ρ2 σ' outer cv (fun u_=>True) ev h:=by
 revert fl;refine rEEEEAAAA fun G B t e he hP hrG st r=>?_
 have st:=hs G st
 rcases hg with rfl | ⟨ht,rfl⟩
 ·exact ⟨ρ',G,B,t,e,he,trivial,hrG,st.toX _,r⟩
 ·exact ⟨ρ,G,B,t,e,he,trivial,hr.cut hrG st.pre ht,⟨List.prefix_refl _,fun b o q hb u_=>st.fr b o q hb,fun u_ h=>.inl h,rfl,rfl⟩,r⟩
theorem retX_exc_inv {y:Y}{k:Nat} (h:retX y=some (.exc k,σ1)):∃ℓ,y=some (.exc k,ℓ,σ1):=by
 cases y with
 | none=>exact nn h
 | some z=>obtain ⟨f,ℓ,σ2⟩:=z;cases f <;> cases h;exact ⟨ℓ,rfl⟩
set_option tactic.hygienic true in
theorem enter {cl : Cl} {Tb : Tabs} {F : Fn} {f : Nat} {o : Obj} {fd : FuncData} {body : List Stmt} {xs : List Str} {A : Around} (x : FnAt K Tb f F o fd body xs) (nl : K.h0.NoLimit) (hdep : A.depth < recursionLimit) (hfrs : ∃ fs, A.frames = some fs)
  (hyy:∀env,HX K (A.deeper env) cl Tb) {vs:List V}{σ:H}{ℓ:L} (hst:startL F vs=some ℓ) {v:R V}{σ':H} (he:gc F.mode σ (retX (execs cl F.body ℓ σ))=some (v,σ')) {ρ:List Addr}{s:Shared}{cvs:List Value} (hr:HR K ρ σ s.heap) (rvs:RVs K ρ s.heap vs cvs) (ff:FF K A ρ s.heap) :
  wpAny K.M A (call (.ref (K.fna f)) cvs) (fun cv s'=>∃w ρ',v=.ok w∧Good K ρ s ρ' σ' s'∧RV K ρ' s'.heap w cv) (fun ev s'=>∃k,v=.exc k∧Flies K A ρ s σ' k ev s') s:=by
 have hlen:cvs.length=xs.length:=by
  have:=(start_inv (K:=K) (ρ:=ρ) (h:=s.heap) (fun y=>fd.scope.names.lookup y) (fun u_=>rfl) x.nd xs F.ps vs cvs (List.replicate F.size .none) ℓ (fun u_=>none) (fun u_=>none) x.ps hst rvs (fun y i v u_ h=>by
   rw [List.getElem?_replicate] at h;split at h <;> cases h)).1
  exact this.symm
 have hcode:K.h0.CodeRec fd.code fd.qualname:=x.code
 refine wpAny_call (codeAny_call_cells hdep (hr.keep _ _ x.ho) x.data (nl.keeps hr.keep) (hcode.keeps hr.keep) x.bodyE (x.bind cvs hlen) x.clo (fun y hy=>?_) (fun s1 hin=>?_) x.co x.gen x.kind)
 ·have hyx:y.1∈xs:=(List.of_mem_zip (a:=y.1) (b:=y.2) hy).1
  refine rE (fun i hi=>?_) (mapM_all x.ps _ hyx)
  rcases slots_kind x.nd hi with h | h
  ·exact .inl h
  ·right
   refine ⟨h,?_⟩
   have hm:=cells_has (n:=s.heap.objs.size + 1) (acc:=[]) (.inl (mem_of_lookup h))
   refine rEA (fun hO0 hb e=>?_) (List.mem_map.mp hm);obtain ⟨y',b⟩:=hO0
   have hnd:((cellsFrom (s.heap.objs.size + 1) fd.scope.names []).map (·.1)).Nodup:=cells_keys x.nd (by simp) (by simp)
   have hl:=nodup_lookup hnd hb
   have e':y'=y.1:=e
   rw [← e',hl];rfl
 ·have fo:=entry_FO (A:=A) x hst hr rvs hin ff
  refine rEE (fun h1 tk1 es1=>?_) hin.toInCall.same
  have hr1:HR K ρ σ s1.heap:=hr.grow hin.toInCall.keep
  have st0:Step ρ s ρ s1:=⟨List.prefix_refl _,fun b o e u_=>ng_keep hin.toInCall.keep e,fun u_ h=>.inl h,by rw [es1],by rw [es1]⟩
  refine rE (fun outer hout=>?_) hfrs
  have hfr:(A.deeper (callEnvC fd s.heap.objs.size (K.fna f))).frames=some (callEnvC fd s.heap.objs.size (K.fna f)::outer):=by show A.frames.map _=_;rw [hout];rfl
  cases hbody:execs cl F.body ℓ σ with
  | none=>rw [hbody] at he;cases hm:F.mode <;> rw [hm] at he <;> exact nn he
  | some y=>
   refine byC fun hX=>?_;obtain ⟨fl,ℓ2,σ2⟩:=y;refine hX ?_;clear hX
   rw [hbody] at he
   have hnew:∀b∈frameX (callEnvC fd s.heap.objs.size (K.fna f)),s.heap.get? b=none:=by
    intro b hb
    have hge : @LE.le Nat _ s.heap.objs.size b:=by
     rcases mem_frameX hb with rfl | ⟨y,hy⟩
     ·exact Nat.le_refl _
     ·exact Nat.le_of_lt (hin.above y b hy)
    cases e:s.heap.get? b with
    | none=>rfl
    | some o=>have:=Heap.lt_size e;exact absurd hge (Nat.not_le.mpr this)
   have stt:∀ρ2 s2,StepX (frameX (callEnvC fd s.heap.objs.size (K.fna f))) ρ s1 ρ2 s2→Step ρ s ρ2 s2:=fun ρ2 s2 st2=>by
    refine ⟨st2.pre,fun b o e hb=>st2.fr b o (ng_keep hin.toInCall.keep e) hb fun hX=>?_,fun b hb=>?_,st2.gens.trans st0.gens,st2.os.trans st0.os⟩
    ·rw [ng_none.mpr (hnew b hX)] at e;exact nn e
    ·rcases st2.fresh b hb with h | h
     ·exact .inl h
     ·right
      cases e:s.heap.get? b with
      | none=>rfl
      | some o=>rw [hin.toInCall.keep b o e] at h;exact ns h
   refine wpAny_mono (sSs body _ Tb (hyy _) (fnC fd.scope) _ ⟨outer,hfr⟩ F.body x.comp ℓ σ fl ℓ2 σ2 hbody ρ s1 hr1 fo) (fun cf s2 hq=>?_) fun ev s2 hq=>?_
   ·revert hq;refine rEAAA fun ρ2 hr2 st2 fo2 frr=>?_
    have st:=stt ρ2 s2 st2
    cases v with
    | exc k=>
     refine rEA (fun τ hτ u2_=>?_) (gc_exc he)
     refine rE (fun ℓx hx=>?_) (retX_exc_inv hτ)
     refine byC fun hX=>?_;refine rAA (fun hO0 hO1 hO2=>?_) (pJ3 hx);obtain rfl:=hO0;obtain rfl:=hO1;obtain rfl:=hO2;refine hX ?_;clear hX
     cases cf <;> exact frr.elim
    | ok v=>
     cases fl with
     | next=>
      cases cf with
      | next=>refine rEA (fun ρ' g r=>?_) (gc_back hr hr2 st .none rfl he);exact ⟨v,ρ',rfl,g,r⟩
      | _=>exact frr.elim
     | brk=>refine rEEA (fun u0_ u1_ e u3_=>?_) (gc_inv he);exact nn e
     | ret w=>
      cases cf with
      | ret cw=>refine rEA (fun ρ' g r=>?_) (gc_back hr hr2 st frr rfl he);exact ⟨v,ρ',rfl,g,r⟩
      | _=>exact frr.elim
     | exc k=>refine rEEA (fun u0_ u1_ e u3_=>?_) (gc_inv he);exact seo e
   ·refine byC fun hX=>?_;revert hq;refine rEAAAE fun k hO1 hgens hos ρ2 hu=>?_;obtain rfl:=hO1;refine hX ?_;clear hX
    cases v with
    | ok v=>refine rEEA (fun u0_ u1_ e u3_=>?_) (gc_inv he);exact seo e
    | exc j=>
     refine rEA (fun τ hτ hg=>?_) (gc_exc he)
     refine byC fun hX=>?_;refine rA (fun hO0 hO1=>?_) (exJ hτ);obtain rfl:=hO0;obtain rfl:=hO1;refine hX ?_;clear hX
     have fin:∀h',Fly K (frameX (callEnvC fd s.heap.objs.size (K.fna f))) ρ s1 ρ2 σ2 outer (K.tyv k) (FO K (A.deeper (callEnvC fd s.heap.objs.size (K.fna f))) (callEnvC fd s.heap.objs.size (K.fna f)) (fnC fd.scope) ℓ2 ρ2) ev h'→∃i,R.exc k=(R.exc i:R V)∧Flies K A ρ s σ' i ev { s2 with heap:=h' }:=fun h' fl=>by
      refine rE (fun ρ3 fl3=>?_) (fl.back hr (fun G st2=>let st:=stt ρ2 _ st2;⟨st.pre,st.fr,st.fresh,rfl,rfl⟩) hg)
      exact ⟨k,rfl,hgens.trans st0.gens,hos.trans st0.os,ρ3,fun fs hfs=>by rw [hout] at hfs;obtain rfl:=Option.some.inj hfs;exact fl3⟩
     rcases hu outer hfr with fl | ⟨_,G,e,args,rfl,hP,hrG,stG,hm⟩
     ·refine rAEEA (fun u0_ L u2_ hf u4_=>?_) (fo.ff _ hfr _ List.mem_cons_self)
      exact fly_next hfr hf fl fin
     ·exact fly_first hfr hP.ff hrG hP stG hm fin
structure PK (K:Kx) (T:Tabs) (pg:Pg):Prop where
 G:GK K T
 ty:TyOK K
 wk:WK K T pg
 ek:EK K T
 fn:∀f F,pg.fn f=some F→FnOK K T f F
 nl:K.h0.NoLimit
 sort:(∃x,T.blts.lookup x=some .sorted)→∀A,Rm 0 A→SortOK K A
 lo:T.loops=true
 kx:K.ex=none
 hfn:∀f F,T.fns.lookup T.hf=some f→pg.fn f=some F→∃o fd body xs,FnAt K (quiet T) f F o fd body xs
theorem FnAt.kat {a:Addr}{j f:Nat}{F:Fn}{o:Obj}{fd:FuncData}{body:List Stmt}{xs:List Str} (x:FnAt K T f F o fd body xs) (kp:∀b o,K.h0.get? b=some o→h.get? b=some o):FnAt (K.at_ h a j) T f F o fd body xs :=
 ⟨at_old kp x.ho,x.data,x.bodyE,x.clo,x.kind,x.co,x.gen,x.nd,x.glob,x.blts,x.code.keeps fun b o e=>at_old kp e,x.bind,x.ps,x.comp,x.size⟩
theorem TyOK.kat {a:Addr}{j:Nat}{oa:Obj}{ws:Array Value} (ty:TyOK K) (kp:∀b o,K.h0.get? b=some o→h.get? b=some o) (h1:h.get? a=some oa) (h2:oa.data=.fields ws) (h3:ws[2]? = some .none) (h4:oa.cls=K.tyv j) (h5:j < 100):TyOK (K.at_ h a j):=by
 have tv:∀t,t < 100→(K.at_ h a j).tyv t=K.tyv t:=fun t ht=>if_neg (by exact ln2 [(.lt .v0 (.k 100))] (.no (.eq .v0 (.a (.k 100) .v1))) (.d 1011) rfl ht)
 refine ⟨(tv 0 (by decide)).trans ty.int,(tv 1 (by decide)).trans ty.bool,(tv 2 (by decide)).trans ty.tuple,(tv 3 (by decide)).trans ty.list,fun u hu=>?_,fun A c t r hr s b o keep hb hc Q E hq=>?_⟩
 ·obtain rfl:=Option.some.inj (show some (100 + j)=some u from hu)
  refine ⟨a,oa,if_pos rfl,at_new h1,?_,oa,ws,at_new h1,h2,h3⟩
  rw [Nat.add_sub_cancel_left,tv j h5];exact h4
 ·have hct : c < 100 ∧ t < 100 := by
   have:=(ite_some (show (if (c=11∨c=12∨c=13)∧(t=4∨t=10∨t=11∨t=12∨t=13) then some (excSub c t || t == 4) else .none)=some r from hr)).1
   lia
  rw [tv t hct.2]
  rw [tv c hct.1] at hc
  exact ty.exc A c t r hr s b o (fun b o e=>keep b o (at_old kp e)) hb hc Q E hq
theorem GK.quiet (G:GK K T):GK K (quiet T):=by
 have lk:∀x t,(T.tys++T.excs).lookup x=some t→T.tys.lookup x=some t∨T.excs.lookup x=some t:=fun x t h=>by
  rw [List.lookup_append] at h
  cases q:T.tys.lookup x with
  | some t'=>rw [q] at h;exact .inl h
  | none=>rw [q] at h;exact .inr h
 refine ⟨?_,?_,fun x t h=>h.elim (fun h=>G.lt x t (lk x t h)) fun h=>by exact nn h⟩
 ·refine rEEAAAAA (fun mg mb h1 h2 h3 u5_ h5 h6=>?_) G.g
  refine rEAA (fun mg2 g1 u2_ g3=>?_) G.g2
  refine ⟨mg,mb,h1,h2,fun x t ht=>?_,fun u_ v_ h=>(by exact nn h),fun y b h=>h5 y b (quiet_blt h).1,h6⟩
  rcases lk x t ht with h | h
  ·exact h3 x t h
  ·have em:mg2=mg:=by rw [g1.eq_nsMap,h1.eq_nsMap]
   rcases g3 x t h with q | ⟨q,mb2,hb,hm⟩
   ·exact .inl (em ▸ q)
   ·have eb:mb2=mb:=by rw [hb.eq_nsMap,h2.eq_nsMap]
    exact .inr ⟨em ▸ q,eb ▸ hm⟩
 ·refine rEAA (fun mg h1 u2_ u3_=>?_) G.g2
  exact ⟨mg,h1,fun u_ v_ h=>(by exact nn h),fun u_ v_ h=>(by exact nn h)⟩
theorem WK.kat {pg:Pg}{a:Addr}{j:Nat} (W:WK K T pg) (kp:∀b o,K.h0.get? b=some o→h.get? b=some o):WK (K.at_ h a j) T pg:=by
 have k:∀b o,K.h0.get? b=some o→(K.at_ h a j).h0.get? b=some o:=fun b o e=>at_old kp e
 refine ⟨fun c C hc=>?_,fun t i=>?_,W.attr⟩
 ·refine rEEAAAAAA (fun N mN h1 h2 h3 h4 h5 h6 h7=>?_) (W.cls c C hc)
  exact ⟨N,mN,h1.keeps k,h2,h3,h4,h5,fun x m f q1 q2=>let ⟨z1,z2,⟨o,fd,z3,z4⟩,z5⟩:=h6 x m f q1 q2;⟨z1,z2,⟨o,fd,k _ _ z3,z4⟩,z5⟩,fun f hf=>let ⟨q1,o,q2,q3⟩:=h7 f hf;⟨q1,o,k _ _ q2,q3⟩⟩
 ·show (if t=100 + j then Value.ref a else K.tyv t)≠_
  split
  ·exact fun e=>by cases e
  ·exact W.tyb t i
theorem WK.quiet {pg:Pg} (W:WK K T pg):WK K (quiet T) pg:=by
 refine ⟨fun c C hc=>?_,W.tyb,fun u_ v_ h=>(by exact nn h)⟩
 refine rEEAAAAAA (fun N mN h1 h2 h3 h4 h5 u7_ h7=>?_) (W.cls c C hc)
 exact ⟨N,mN,h1,h2,h3,h4,h5,fun u_ v_ w_ h=>(by exact nn h),h7⟩
theorem hcall_of {pg:Pg} (pk:PK K T pg) (d:Nat) (A:Around) (rm:Rm d A) (f:Nat) (hf:T.fns.lookup T.hf=some f):HCall K A ⟨pg,callF pg d⟩ f:=by
 intro h a j oa ws h1 h2 h3 h4 h5 kp v σ σ' he ρ s hr ff
 cases d with
 | zero=>exact nn he
 | succ d=>
  refine bind_e ((show (pg.fn f).bind _=_ from he)) fun F hF he=>?_
  refine bind_e (he) fun ℓ hst he=>?_
  refine rEEEE (fun o fd body xs x=>?_) (pk.hfn f F hf hF)
  have et:(K.at_ h a j).tyv (100 + j)=.ref a:=if_pos rfl
  have rv:RVs (K.at_ h a j) ρ s.heap [.ty (100 + j)] [.ref a]:=.cons (by rw [← et];exact .ty _ (.inr rfl)) .nil
  refine wpAny_mono (enter (K:=K.at_ h a j) (Tb:=Mini.Internal.quiet T) (A:=A.mark (some (.ref a))) (x.kat kp) (pk.nl.keeps fun b o e=>at_old kp e) (by have:=rm.depth;show A.depth < _;exact ln3 [(.lt (.a .v0 (.m 2 (.a .v2 .k1))) .v1)] (.lt .v0 .v1) (.d 111) rfl this) rm.fr (fun env=>?_) hst he hr rv ff) (fun cv s' ⟨w,ρ',e,g,r⟩=>by obtain rfl:=oi e;exact ⟨ρ',g,r⟩) fun _ _ ⟨_,e,_⟩=>by exact oe e
  refine ⟨⟨(pk.G.kat kp).quiet,pk.ty.kat kp h1 h2 h3 h4 h5,?_,fun h=>(by exact ft h),fun ⟨_,h⟩=>(by rcases (quiet_blt h).2 with h | h <;> cases h),(pk.wk.kat kp).quiet,fun u_ y b h=>(quiet_blt h).2,fun u_=>.inr ⟨a,rfl,oa,ws,at_new h1,h2,h3⟩⟩,fun h=>(by exact ft h),⟨fun u_ v_ h=>(by exact nn h),fun u_ v_ w_ h=>(by exact nn h)⟩,fun h=>(by exact ft h),fun h=>(by exact ft h)⟩
  have:=(rm.deeper env).units
  show (A.deeper env).units + 16 < cLine
  exact ln3 [(.lt (.a (.a .v0 (.m 8 .v2)) (.k 40)) .v1)] (.lt (.a .v0 (.k 16)) .v1) (.d 111) rfl this
theorem call_both {pg : Pg} (pk : PK K T pg) : ∀ (d : Nat) (A : Around), Rm d A → ∀ (f : Nat) (vs : List V) (σ : H) (r : R V) (σ' : H), callF pg d f vs σ = some (r, σ') → ∀ (ρ : List Addr) (s : Shared) (cvs : List Value), HR K ρ σ s.heap → RVs K ρ s.heap vs cvs → FF K A ρ s.heap →
      wpAny K.M A (call (.ref (K.fna f)) cvs) (fun cv s'=>∃v ρ',r=.ok v∧Good K ρ s ρ' σ' s'∧RV K ρ' s'.heap v cv) (fun ev s'=>∃k,r=.exc k∧Flies K A ρ s σ' k ev s') s
  | 0,A,_=>fun f vs σ v σ' h=>by exact nn h
  | d + 1,A,rm=>by
    have again:=call_both pk d
    have ok:∀A',Rm d A'→CallOK K A' ⟨pg,callF pg d⟩:=fun A' rm' f vs σ v σ' h ρ s cvs hr rvs ff=>wpAny_mono (again A' rm' f vs σ _ σ' h ρ s cvs hr rvs ff) (fun cv s' ⟨w,ρ',e,g,r⟩=>by obtain rfl:=oi e;exact ⟨ρ',g,r⟩) fun _ _ ⟨_,e,_⟩=>by exact oe e
    have ex:∀A',Rm d A'→CallX K A' ⟨pg,callF pg d⟩:=fun A' rm' f vs σ k σ' h ρ s cvs hr rvs ff=>wpAny_mono (again A' rm' f vs σ _ σ' h ρ s cvs hr rvs ff) (fun cv s' ⟨w,ρ',e,_⟩=>by exact eo e) fun _ _ ⟨j,e,fl⟩=>by obtain rfl:=ei e;exact fl
    intro f vs σ v σ' he ρ s cvs hr rvs ff
    refine rEA (fun F hF he=>?_) (Option.bind_eq_some_iff.mp (show (pg.fn f).bind _=_ from he))
    refine rEA (fun ℓ hst he=>?_) (Option.bind_eq_some_iff.mp he)
    refine byC fun hX=>?_;obtain ⟨Tb,o,fd,body,xs,hTb,x⟩:=pk.fn f F hF;refine hX ?_;clear hX
    refine enter x pk.nl (by have:=rm.depth;lia) rm.fr (fun env=>?_) hst he hr rvs ff
    have rm':=rm.deeper env
    rcases hTb with rfl | rfl
    · exact ⟨⟨pk.G,pk.ty,by have:=rm'.units;lia,fun u_=>⟨rm'.handled,ok _ rm',fun C vs=>ok _ (rm.under _ C vs)⟩,fun hx=>pk.sort hx _ ⟨rm'.handled,by have:=rm'.depth;lia,by have:=rm'.units;lia,rm'.fr⟩,pk.wk,fun h=>(by rw [pk.lo] at h;exact tf h),fun h=>(by rw [pk.lo] at h;exact tf h)⟩,fun u_=>ex _ rm',pk.ek,fun u_=>pk.kx,fun u_ f hf=>hcall_of pk d _ rm' f hf⟩
    · exact ⟨⟨pk.G.quiet,pk.ty,by have:=rm'.units;lia,fun h=>(by exact ft h),fun ⟨_,h⟩=>(by rcases (quiet_blt h).2 with h | h <;> cases h),pk.wk.quiet,fun u_ y b h=>(quiet_blt h).2,fun u_=>.inl rm'.handled⟩,fun h=>(by exact ft h),⟨fun u_ v_ h=>(by exact nn h),fun u_ v_ w_ h=>(by exact nn h)⟩,fun h=>(by exact ft h),fun h=>(by exact ft h)⟩
theorem call_sound {pg:Pg} (pk:PK K T pg) (d:Nat) (A:Around) (rm:Rm d A):CallOK K A ⟨pg,callF pg d⟩:=fun f vs σ v σ' h ρ s cvs hr rvs ff=>wpAny_mono (call_both pk d A rm f vs σ _ σ' h ρ s cvs hr rvs ff) (fun cv s' ⟨w,ρ',e,g,r⟩=>by obtain rfl:=oi e;exact ⟨ρ',g,r⟩) fun _ _ ⟨_,e,_⟩=>by exact oe e
end
end Mini.Internal
namespace Mini.Internal
open PySem PyProof.Rows PySem.SeqAt PySem.Calls
variable {ρ ρ' ρ1:List Addr}{σ σ' σ1:H}{s s' s1:Shared}{h h':Heap}{ℓ ℓ':L}
theorem fm_congr {α β:Type}{f g:α→Option β}:∀{l:List α},(∀x∈l,f x=g x)→l.filterMap f=l.filterMap g
 | [],_=>rfl
 | x::l,h=>by rw [List.filterMap_cons,List.filterMap_cons,h x List.mem_cons_self,fm_congr fun y hy=>h y (List.mem_cons_of_mem _ hy)]
theorem zip_lookup:∀{xs:List Str}{vals:List Value},xs.Nodup→vals.length=xs.length→xs.filterMap (fun n=>((xs.zip vals).lookup n).map (n,·))=xs.zip vals
 | [],[],_,_=>rfl
 | [],_::_,_,h=>by cases h
 | _::_,[],_,h=>by cases h
 | x::xs,v::vs,hn,h=>by
  rw [List.nodup_cons] at hn
  have ih:=zip_lookup hn.2 (by simpa using h)
  rw [List.zip_cons_cons,List.filterMap_cons]
  have e1:((x,v)::xs.zip vs).lookup x=some v:=by simp [List.lookup_cons]
  rw [e1]
  simp only [Option.map_some]
  congr 1
  rw [← ih]
  refine fm_congr fun y hy=>?_
  have hne:(y == x)=false:=by simp;rintro rfl;exact hn.1 hy
  rw [List.lookup_cons,hne]
  simp only
  rw [ih]
theorem zip_all:∀{xs:List Str}{vals:List Value},vals.length=xs.length→∀x∈xs,((xs.zip vals).lookup x).isNone=false
 | [],_,_,x,hx=>by cases hx
 | _::_,[],h,_,_=>by cases h
 | y::xs,v::vs,h,x,hx=>by
  rw [List.zip_cons_cons,List.lookup_cons]
  cases hb:x == y with
  | true=>rfl
  | false=>
   rcases List.mem_cons.mp hx with rfl | hx
   ·simp at hb
   ·exact zip_all (by simpa using h) x hx
noncomputable def plainParams (p:Arguments):Bool:=p.posonlyargs.isEmpty && p.kwonlyargs.isEmpty && p.vararg.isNone && p.kwarg.isNone && decide (p.args.map (·.arg)).Nodup
theorem bind_plain {name : Str} {p : Arguments} {body : List Stmt} {scope : Scope} {pm code doc : Value} (h : plainParams p = true) (vals : List Value) (hl : vals.length = (p.args.map (·.arg)).length) :
  bindArgs (docDef name p body scope pm code doc) ⟨vals,[]⟩=pure ((p.args.map (·.arg)).zip vals):=by
 refine byC fun hX=>?_;obtain ⟨po,as,va,kwo,kd,kw,df⟩:=p;refine hX ?_;clear hX
 simp only [plainParams,Bool.and_eq_true,List.isEmpty_iff,Option.isNone_iff_eq_none,decide_eq_true_eq] at h
 revert h;refine rA fun hO0 hn=>?_;obtain ⟨⟨⟨rfl,rfl⟩,rfl⟩,rfl⟩:=hO0
 simp only at hl hn
 have hm:((as.map (·.arg)).take ((as.map (·.arg)).length)).filter (fun n=>(((as.map (·.arg)).zip vals).lookup n).isNone)=[]:=by
  rw [List.filter_eq_nil_iff]
  intro x hx
  rw [List.take_length] at hx
  simp [zip_all hl x hx]
 have hz:=zip_lookup hn hl
 have hlen:¬ (decide (vals.length > (as.map (·.arg)).length) && true)=true:=by rw [hl];simp
 have hzip:∀(l:List Str) (k:Nat),l.zip (List.drop k ([]:List Value))=[]:=fun l k=>by rw [List.drop_nil,List.zip_nil_right]
 refine Eq.trans (b:=ite ((decide (vals.length > (as.map fun x:Arg=>x.arg).length) && true)=true) _ _) rfl ?_
 refine (if_neg hlen).trans ?_
 refine (if_neg ?hc).trans ?_
 case hc=>
  show ¬ (!(((as.map fun x:Arg=>x.arg).take ((as.map fun x:Arg=>x.arg).length - (List.drop (0 - (as.map fun x:Arg=>x.arg).length) ([]:List Value)).length)).filter (fun n=>(((as.map fun x:Arg=>x.arg).zip vals).lookup n).isNone)).isEmpty)=true
  rw [List.drop_nil,List.length_nil,Nat.sub_zero,hm];simp
 refine Eq.trans (b:=forIn (((as.map fun x:Arg=>x.arg).drop ((as.map fun x:Arg=>x.arg).length - (List.drop (0 - (as.map fun x:Arg=>x.arg).length) ([]:List Value)).length)).zip (List.drop (0 - (as.map fun x:Arg=>x.arg).length) ([]:List Value))) _ _ >>= _) rfl ?_
 rw [hzip]
 refine Eq.trans (b:=pure (((as.map fun x:Arg=>x.arg)++[]).filterMap fun n=>(((as.map fun x:Arg=>x.arg).zip vals).lookup n).map (n,·))) rfl ?_
 rw [List.append_nil,hz]
theorem bind_meth {name qual : Str} {p : Arguments} {body : List Stmt} {scope : Scope} {pm code doc : Value} (h : plainParams p = true) (vals : List Value) (hl : vals.length = (p.args.map (·.arg)).length) :
  bindArgs (methDef name qual p body scope pm code doc) ⟨vals,[]⟩=pure ((p.args.map (·.arg)).zip vals):=by
 refine byC fun hX=>?_;obtain ⟨po,as,va,kwo,kd,kw,df⟩:=p;refine hX ?_;clear hX
 simp only [plainParams,Bool.and_eq_true,List.isEmpty_iff,Option.isNone_iff_eq_none,decide_eq_true_eq] at h
 revert h;refine rA fun hO0 hn=>?_;obtain ⟨⟨⟨rfl,rfl⟩,rfl⟩,rfl⟩:=hO0
 simp only at hl hn
 have hm:((as.map (·.arg)).take ((as.map (·.arg)).length)).filter (fun n=>(((as.map (·.arg)).zip vals).lookup n).isNone)=[]:=by
  rw [List.filter_eq_nil_iff]
  intro x hx
  rw [List.take_length] at hx
  simp [zip_all hl x hx]
 have hz:=zip_lookup hn hl
 have hlen:¬ (decide (vals.length > (as.map (·.arg)).length) && true)=true:=by rw [hl];simp
 have hzip:∀(l:List Str) (k:Nat),l.zip (List.drop k ([]:List Value))=[]:=fun l k=>by rw [List.drop_nil,List.zip_nil_right]
 refine Eq.trans (b:=ite ((decide (vals.length > (as.map fun x:Arg=>x.arg).length) && true)=true) _ _) rfl ?_
 refine (if_neg hlen).trans ?_
 refine (if_neg ?hc).trans ?_
 case hc=>
  show ¬ (!(((as.map fun x:Arg=>x.arg).take ((as.map fun x:Arg=>x.arg).length - (List.drop (0 - (as.map fun x:Arg=>x.arg).length) ([]:List Value)).length)).filter (fun n=>(((as.map fun x:Arg=>x.arg).zip vals).lookup n).isNone)).isEmpty)=true
  rw [List.drop_nil,List.length_nil,Nat.sub_zero,hm];simp
 refine Eq.trans (b:=forIn (((as.map fun x:Arg=>x.arg).drop ((as.map fun x:Arg=>x.arg).length - (List.drop (0 - (as.map fun x:Arg=>x.arg).length) ([]:List Value)).length)).zip (List.drop (0 - (as.map fun x:Arg=>x.arg).length) ([]:List Value))) _ _ >>= _) rfl ?_
 rw [hzip]
 refine Eq.trans (b:=pure (((as.map fun x:Arg=>x.arg)++[]).filterMap fun n=>(((as.map fun x:Arg=>x.arg).zip vals).lookup n).map (n,·))) rfl ?_
 rw [List.append_nil,hz]
end Mini.Internal
set_option maxRecDepth 100000
namespace Mini.Internal
open PySem
variable {ρ ρ' ρ1:List Addr}{σ σ' σ1:H}{s s' s1:Shared}{h h':Heap}{ℓ ℓ':L}
open Sem (wp)
inductive TailN (n:Str) (h:Heap) (bmB:List Value):List Value→Prop
 | base:TailN n h bmB bmB
 | own {A : Addr} {c0 : Value} {dd : Option Addr} {cd : ClassData} {sl : Array (Option Value)} {mA : Str → Option Value} {tl : List Value} :
   h.get? A=some { cls:=c0,dict:=dd,data:=.cls cd,slots:=sl }→h.Ns cd.ns mA→mA n=none→TailN n h bmB tl→TailN n h bmB (.ref A::tl)
theorem TailN.keeps {n:Str}{bmB tl:List Value} (T:TailN n h bmB tl) (hk:∀b o,h.get? b=some o→h'.get? b=some o):TailN n h' bmB tl:=by
 induction T with
 | base=>exact .base
 | own hA hN hq _ ih=>exact .own (hk _ _ hA) (hN.keeps hk) hq ih
theorem lk_exc_class : typeLookup (.type "ValueError") "__class__" = pure (some (.builtin "object.__class__")) := by rw [typeLookup_type, builtinLookup_eq_fast]; kernel_rfl
section
variable {M:Model}{A:Around}{E:Value→Shared→Prop}{h:Heap}{g:Array GenState}{d:Drawn}{t:Nat}{os:OsState}
theorem along_tailN {bmB tl : List Value} {n : Str} {y : Option Value} {Q : Option Value → Shared → Prop} (T : TailN n h bmB tl) (hrest : lookupAlong bmB n = pure y) (hq : Q y ⟨h, g, d, t, os⟩) :
  wpAny M A (lookupAlong tl n) Q E ⟨h,g,d,t,os⟩:=by
 induction T with
 | base=>rw [hrest];exact wpAny_pure hq
 | own hA hN hni _ ih=>
  rw [lookupAlong_cons]
  refine wpAny_bind (wpAny_classOwn_cls hA hN ?_)
  rw [hni]
  exact ih
variable {nm q:Str}{C N:Addr}{bs bm bmB:List Value}{hdct:Bool}{sn:List Str}{sub:List Value}{ab:Bool}{col:Option Bool}{dd:Option Addr}{k0 k1 k2 k3 k5:Option Value}{B newId:String}
theorem lookup_tailN {mN : Str → Option Value} {n : Str} {y : Option Value} {Q : Option Value → Shared → Prop}
  (hC:h.get? C=some (excClassObj nm q C N bs bm hdct sn sub ab col dd k0 k1 k2 k3 k5 newId)) (hN:h.Ns N mN) (hmN:mN n=none) (T:TailN n h bmB bm) (hbm:mroOf (.type B)=pure bmB)
  (hB:typeLookup (.type B) n=pure y) (hq:Q y ⟨h,g,d,t,os⟩):wpAny M A (typeLookup (.ref C) n) Q E ⟨h,g,d,t,os⟩:=by
 have hrest:lookupAlong bmB n=pure y:=by rw [typeLookup_eq,hbm] at hB;exact hB
 rw [typeLookup_eq]
 refine wpAny_bind (wpAny_mroOf_exc hC ?_)
 rw [lookupAlong_cons]
 refine wpAny_bind (wpAny_classOwn_exc hC hN ?_)
 rw [hmN]
 exact along_tailN T hrest hq
end
section
variable {prog:Program}{w:World}{A:Around}{E:Value→Shared→Prop}{h:Heap}{g:Array GenState}{d:Drawn}{t:Nat}{os:OsState}{a:Addr}{o:Obj}
 {nm q:Str}{C N:Addr}{bs bm bmB:List Value}{hdct:Bool}{sn:List Str}{sub:List Value}{ab:Bool}{col:Option Bool}{dd:Option Addr}{k0 k1 k2 k3 k5:Option Value}{newId:String}{mN:Str→Option Value}
theorem class_get_exc {R : Result → Shared → Prop} (hC : h.get? C = some (excClassObj nm q C N bs bm hdct sn sub ab col dd k0 k1 k2 k3 k5 newId)) (hob : bm.contains (.type "object") = true)
  (hx:h.get? a=some o) (hc:o.cls=.ref C) (hq:R (.ok (.ret (.ref C))) ⟨h,g,d,t,os⟩) :
  codeAny (model prog w) A (.call (.builtin "getset_descriptor.__get__") ⟨[.builtin "object.__class__", .ref a, .ref C], []⟩) R ⟨h, g, d, t, os⟩ := by
 have hT5 : (⟨h, g, d, t, os⟩ : Shared).TypeIs (.builtin "object.__class__") "getset_descriptor" := F.typeOf_object_class
 have hcB : (Value.ref C :: bm).contains (.type (".".intercalate ("object.__class__".cutAt '.').dropLast)) = true := by
  rw [F.owner_object_class,List.contains_cons,hob];rfl
 refine codeAny_call_builtin F.slot_gs_get.plain F.entry_gs_get (F.slot_gs_get.check _ _ _ _ _ _ _ _ hT5 (F.args_gs_get _ _ _) ?_)
 repeat (any_goals (first | assumption | (with_reducible refine wpAny_loadPart_at hx ?_;rw [hc]) | (with_reducible refine wpAny_isSubtype_exc hC ?_;rw [hcB]) | wp_step))
 refine ⟨Code.quiet_builtin _ (by decide +kernel),codeAny_builtin F.entry_object_class ?_⟩
 repeat (any_goals (first | assumption | (with_reducible refine wpAny_loadPart_at hx ?_;rw [hc]) | wp_step))
theorem class_entry_exc {tk : Tok} {Q : Fin → Shared → Prop} (hC : h.get? C = some (excClassObj nm q C N bs bm hdct sn sub ab col dd k0 k1 k2 k3 k5 newId)) (hob : bm.contains (.type "object") = true) (hN : h.Ns N mN)
  (hmc : mN "__class__" = none) (hbm : mroOf (.type "ValueError") = pure bmB) (T : TailN "__class__" h bmB bm) (hx : h.get? a = some o) (hc : o.cls = .ref C) (hq : Q (.done (.ret (.ref C))) ⟨h, g, d, t, os⟩) :
  wpAny (model prog w) A (Builtin.«object.__getattribute__» ⟨[.ref a, .str "__class__" tk], []⟩) Q E ⟨h, g, d, t, os⟩ := by
 have hT5 : (⟨h, g, d, t, os⟩ : Shared).TypeIs (.builtin "object.__class__") "getset_descriptor" := F.typeOf_object_class
 have f5:=F.typeOf_object_class
 have f6:=F.slot_gs_get.lookup
 have f7:=F.slot_gs_set.lookup
 repeat (any_goals (first | assumption | (with_reducible refine wpAny_loadPart_at hx ?_;rw [hc]) | with_reducible refine lookup_tailN hC hN hmc T hbm lk_exc_class ?_ | wp_step))
 refine class_get_exc hC hob hx hc ?_
 repeat (any_goals (first | assumption | wp_step))
theorem class_call_exc {tk : Tok} {R : Result → Shared → Prop} (FB : ExcAttrBase "ValueError" bmB) (hC : h.get? C = some (excClassObj nm q C N bs bm hdct sn sub ab col dd k0 k1 k2 k3 k5 newId)) (hob : bm.contains (.type "object") = true) (hN : h.Ns N mN)
  (TQ : OwnTailQ h bmB bm) (hmc : mN "__class__" = none) (T : TailN "__class__" h bmB bm) (hx : h.get? a = some o) (hc : o.cls = .ref C) (hq : R (.ok (.ret (.ref C))) ⟨h, g, d, t, os⟩) :
  codeAny (model prog w) A (.call (.builtin "BaseException.__getattribute__") ⟨[.ref a, .str "__class__" tk], []⟩) R ⟨h, g, d, t, os⟩ :=
 codeAny_call_builtin FB.ga.plain F.entry_bexc_ga (wpAny_check_ga_own FB hC TQ hx hc (class_entry_exc hC hob hN hmc FB.mro T hx hc hq))
theorem class_by_exc {tk : Tok} {Q : Value → Shared → Prop} (FB : ExcAttrBase "ValueError" bmB) (hC : h.get? C = some (excClassObj nm q C N bs bm hdct sn sub ab col dd k0 k1 k2 k3 k5 newId)) (hob : bm.contains (.type "object") = true) (hN : h.Ns N mN)
  (hmN : ∀ n ∈ quietNames, mN n = none) (TQ : OwnTailQ h bmB bm) (hmc : mN "__class__" = none) (T : TailN "__class__" h bmB bm) (hx : h.get? a = some o) (hc : o.cls = .ref C) (hq : Q (.ref C) ⟨h, g, d, t, os⟩) :
  wpAny (model prog w) A (getAttrBy (.ref a) (.str "__class__" tk) false) Q E ⟨h, g, d, t, os⟩ := by
 have f3:=FB.ga.bind (.ref a)
 have hx2 : (Value.builtin "BaseException.__getattribute__" == Value.builtin "object.__getattribute__") = false := by decide +kernel
 have hx1 : (onTheHeap (Value.ref C) && Value.builtin "BaseException.__getattribute__" == Value.builtin "object.__getattribute__") = false := by rw [hx2]; rfl
 have hm1 : ("__getattribute__" : Str) ∈ quietNames := .tail _ (.head _)
 have hm2 : ("__getattr__" : Str) ∈ quietNames := .tail _ (.tail _ (.head _))
 repeat (any_goals (first | assumption | (with_reducible refine wpAny_loadPart_at hx ?_;rw [hc]) | with_reducible refine wpAny_typeLookup_tailQ hm1 hC hN hmN TQ FB.mro FB.ga.lookup ?_ | with_reducible refine wpAny_typeLookup_tailQ hm2 hC hN hmN TQ FB.mro FB.noGetattr ?_ | wp_step))
 refine class_call_exc FB hC hob hN TQ hmc T hx hc ?_
 repeat (any_goals (first | assumption | wp_step))
theorem class_attr_exc {Q : Option Value → Shared → Prop} (FB : ExcAttrBase "ValueError" bmB) (hC : h.get? C = some (excClassObj nm q C N bs bm hdct sn sub ab col dd k0 k1 k2 k3 k5 newId)) (hob : bm.contains (.type "object") = true) (hN : h.Ns N mN)
  (hmN : ∀ n ∈ quietNames, mN n = none) (TQ : OwnTailQ h bmB bm) (hmc : mN "__class__" = none) (T : TailN "__class__" h bmB bm) (hx : h.get? a = some o) (hc : o.cls = .ref C) (hq : Q (some (.ref C)) ⟨h, g, d, t + 1, os⟩) :
  wpAny (model prog w) A (getAttr? (.ref a) "__class__") Q E ⟨h, g, d, t, os⟩ := by
 unfold getAttr? getAttrBy?
 repeat (any_goals (first | assumption | with_reducible apply class_by_exc FB hC hob hN hmN TQ hmc T hx hc | wp_step))
end
open Sem (wp)
section
variable {prog:Program}{w:World}{A:Around}{E:Value→Shared→Prop}{h:Heap}{g:Array GenState}{d:Drawn}{t:Nat}{os:OsState}{a:Addr}{o:Obj}
 {nm q:Str}{C N:Addr}{bs bm bmB:List Value}{hdct:Bool}{sn:List Str}{sub:List Value}{ab:Bool}{col:Option Bool}{dd:Option Addr}{k0 k1 k2 k3 k5:Option Value}{newId:String}{mN:Str→Option Value}
 {nm' q':Str}{D N':Addr}{bs' bm':List Value}{hdct':Bool}{sn':List Str}{sub':List Value}{ab':Bool}{col':Option Bool}{dd':Option Addr}{j0 j1 j2 j3 j5:Option Value}{newId':String}
theorem isn_exc {dep : Int} {tk : Tok} {Q : Fin → Shared → Prop} (FB : ExcAttrBase "ValueError" bmB) (hC : h.get? C = some (excClassObj nm q C N bs bm hdct sn sub ab col dd k0 k1 k2 k3 k5 newId)) (hob : bm.contains (.type "object") = true) (hN : h.Ns N mN)
  (hmN : ∀ n ∈ quietNames, mN n = none) (TQ : OwnTailQ h bmB bm) (hmc : mN "__class__" = none) (T : TailN "__class__" h bmB bm) (hx : h.get? a = some o) (hc : o.cls = .ref C)
  (hD:h.get? D=some (excClassObj nm' q' D N' bs' bm' hdct' sn' sub' ab' col' dd' j0 j1 j2 j3 j5 newId')) (hsub:(Value.ref C::bm).contains (.ref D)=false) (hq:Q (.done (.ret (.bool false))) ⟨h,g,d,t + 1,os⟩) :
  wpAny (model prog w) A (Builtin.«isinstance.nested» ⟨[.ref a,.ref D,.int dep tk],[]⟩) Q E ⟨h,g,d,t,os⟩:=by
 have hne:(Value.ref C == Value.ref D)=false:=by
  rw [List.contains_cons,Bool.or_eq_false_iff] at hsub
  have:=hsub.1
  cases e:(Value.ref C == Value.ref D) with
  | false=>rfl
  | true=>rw [beq_iff_eq.mp e] at this;simp at this
 repeat (any_goals (first | assumption | (with_reducible refine wpAny_loadPart_at hx ?_;rw [hc]) | with_reducible refine wpAny_loadPart_at hD ?_ | (with_reducible refine wpAny_isSubtype_exc hC ?_;rw [hsub]) | with_reducible apply class_attr_exc FB hC hob hN hmN TQ hmc T hx hc | wp_step))
theorem isy_exc {dep : Int} {tk : Tok} {Q : Fin → Shared → Prop} (hC : h.get? C = some (excClassObj nm q C N bs bm hdct sn sub ab col dd k0 k1 k2 k3 k5 newId)) (hx : h.get? a = some o) (hc : o.cls = .ref C)
  (hD:h.get? D=some (excClassObj nm' q' D N' bs' bm' hdct' sn' sub' ab' col' dd' j0 j1 j2 j3 j5 newId')) (hsub:(Value.ref C::bm).contains (.ref D)=true) (hq:Q (.done (.ret (.bool true))) ⟨h,g,d,t,os⟩) :
  wpAny (model prog w) A (Builtin.«isinstance.nested» ⟨[.ref a,.ref D,.int dep tk],[]⟩) Q E ⟨h,g,d,t,os⟩:=by
 cases hne:(Value.ref C == Value.ref D) with
 | true=>repeat (any_goals (first | assumption | (with_reducible refine wpAny_loadPart_at hx ?_;rw [hc]) | wp_step))
 | false=>repeat (any_goals (first | assumption | (with_reducible refine wpAny_loadPart_at hx ?_;rw [hc]) | with_reducible refine wpAny_loadPart_at hD ?_ | (with_reducible refine wpAny_isSubtype_exc hC ?_;rw [hsub]) | wp_step))
theorem isy_val {dep : Int} {tk : Tok} {Q : Fin → Shared → Prop} (hC : h.get? C = some (excClassObj nm q C N bs bm hdct sn sub ab col dd k0 k1 k2 k3 k5 newId)) (hx : h.get? a = some o) (hc : o.cls = .ref C)
  (hsub : (Value.ref C :: bm).contains (.type "ValueError") = true) (hq : Q (.done (.ret (.bool true))) ⟨h, g, d, t, os⟩) :
  wpAny (model prog w) A (Builtin.«isinstance.nested» ⟨[.ref a, .type "ValueError", .int dep tk], []⟩) Q E ⟨h, g, d, t, os⟩ := by
 have hne : (Value.ref C == Value.type "ValueError") = false := rfl
 have hty : typeOf (.type "ValueError") = pure (.type "type") := by kernel_rfl
 repeat (any_goals (first | assumption | (with_reducible refine wpAny_loadPart_at hx ?_;rw [hc]) | (with_reducible refine wpAny_isSubtype_exc hC ?_;rw [hsub]) | wp_step))
theorem call_isn_exc {Q : Value → Shared → Prop} (FB : ExcAttrBase "ValueError" bmB) (hC : h.get? C = some (excClassObj nm q C N bs bm hdct sn sub ab col dd k0 k1 k2 k3 k5 newId)) (hob : bm.contains (.type "object") = true) (hN : h.Ns N mN)
  (hmN : ∀ n ∈ quietNames, mN n = none) (TQ : OwnTailQ h bmB bm) (hmc : mN "__class__" = none) (T : TailN "__class__" h bmB bm) (hx : h.get? a = some o) (hc : o.cls = .ref C)
  (hD:h.get? D=some (excClassObj nm' q' D N' bs' bm' hdct' sn' sub' ab' col' dd' j0 j1 j2 j3 j5 newId')) (hsub:(Value.ref C::bm).contains (.ref D)=false) (hq:Q (.bool false) ⟨h,g,d,t + 1,os⟩) :
  wpAny (model prog w) A (call (.builtin "isinstance") [.ref a, .ref D]) Q E ⟨h, g, d, t, os⟩ :=
 call_isinstance (S:=fun u_ R s=>s=⟨h,g,d,t,os⟩∧R (.ok (.ret (.bool false))) ⟨h,g,d,t + 1,os⟩) (fun u_ v_ w_ x_ s hs=>by obtain ⟨rfl,hR⟩:=hs;exact isinstance_outer (isn_exc FB hC hob hN hmN TQ hmc T hx hc hD hsub hR) (by intro e;cases e)) ⟨rfl,hq⟩
theorem call_isy_exc {Q : Value → Shared → Prop} (hC : h.get? C = some (excClassObj nm q C N bs bm hdct sn sub ab col dd k0 k1 k2 k3 k5 newId)) (hx : h.get? a = some o) (hc : o.cls = .ref C)
  (hD:h.get? D=some (excClassObj nm' q' D N' bs' bm' hdct' sn' sub' ab' col' dd' j0 j1 j2 j3 j5 newId')) (hsub:(Value.ref C::bm).contains (.ref D)=true) (hq:Q (.bool true) ⟨h,g,d,t,os⟩) :
  wpAny (model prog w) A (call (.builtin "isinstance") [.ref a, .ref D]) Q E ⟨h, g, d, t, os⟩ :=
 call_isinstance (S:=fun u_ R s=>s=⟨h,g,d,t,os⟩∧R (.ok (.ret (.bool true))) ⟨h,g,d,t,os⟩) (fun u_ v_ w_ x_ s hs=>by obtain ⟨rfl,hR⟩:=hs;exact isinstance_outer (isy_exc hC hx hc hD hsub hR) (by intro e;cases e)) ⟨rfl,hq⟩
theorem call_isy_val {Q : Value → Shared → Prop} (hC : h.get? C = some (excClassObj nm q C N bs bm hdct sn sub ab col dd k0 k1 k2 k3 k5 newId)) (hx : h.get? a = some o) (hc : o.cls = .ref C)
  (hsub : (Value.ref C :: bm).contains (.type "ValueError") = true) (hq : Q (.bool true) ⟨h, g, d, t, os⟩) :
  wpAny (model prog w) A (call (.builtin "isinstance") [.ref a, .type "ValueError"]) Q E ⟨h, g, d, t, os⟩ :=
 call_isinstance (S:=fun u_ R s=>s=⟨h,g,d,t,os⟩∧R (.ok (.ret (.bool true))) ⟨h,g,d,t,os⟩) (fun u_ v_ w_ x_ s hs=>by obtain ⟨rfl,hR⟩:=hs;exact isinstance_outer (isy_val hC hx hc hsub hR) (by intro e;cases e)) ⟨rfl,hq⟩
end
end Mini.Internal
namespace Mini.Internal
open PySem PyProof.Rows PySem.SeqAt PySem.Calls
variable {ρ ρ' ρ1:List Addr}{σ σ' σ1:H}{s s' s1:Shared}{h h':Heap}{ℓ ℓ':L}
noncomputable def fnNo (x:Str):Option Nat:=fnNames.lookup x
noncomputable def fnName (n:Nat):Option Str:=(fnNames.find? (fun p=>p.2 == n)).map (·.1)
noncomputable def mtName (m:Nat):Option Str:=(methNames.find? (fun p=>p.2 == m)).map (·.1)
noncomputable def ownNames : List (Str × Nat) := [(Str.ofString "SpanError", 10), (Str.ofString "BadStretch", 11), (Str.ofString "Twice", 12), (Str.ofString "Missing", 13)]
noncomputable def sWood : Str := Str.ofString "Wood"
noncomputable def tabs1 (bl : List (Str × Blt)) (ds : List DefRec) : Tabs := ⟨ds.filterMap (fun d => (fnNo d.name).map (d.name, ·)), tyNames, bl, [(sWood, 0)], methNames, [(Str.ofString "top", 0), (Str.ofString "many", 1)], ownNames, true, Str.ofString "_law_named"⟩
noncomputable def fnT (T:Tabs) (x:Str):Tabs:=if x == T.hf then quiet T else T
noncomputable def fnAt (bl:List (Str×Blt)) (md:Nat→Mode) (ds:List DefRec) (n:Nat):Option Fn:=match ds.find? (fun d=>fnNo d.name == some n) with
 | some d=>cFn (fnT (tabs1 bl ds) d.name) (md n) 8 d.params d.scope d.body
 | none=>none
noncomputable def mtAt (bl:List (Str×Blt)) (md:Nat→Mode) (ds:List DefRec) (ms:List MethRec) (m:Nat):Option Fn:=match ms.find? (fun r=>methNames.lookup r.name == some m) with
 | some r=>cFn (tabs1 bl ds) (md (70 + m)) 8 r.params r.scope r.body
 | none=>none
noncomputable def hasMt (ms:List MethRec) (m:Nat):Bool:=ms.any fun r=>methNames.lookup r.name == some m
noncomputable def pgOf (bl:List (Str×Blt)) (md:Nat→Mode) (ds:List DefRec) (ms:List MethRec):Pg :=
 ⟨fun n=>if n < 70 then fnAt bl md ds n else mtAt bl md ds ms (n - 70),fun c m=>if c == 0 && hasMt ms m then some (70 + m) else none,fun c=>if c == 0 && hasMt ms 0 then some 70 else none⟩
noncomputable def goodDef (d:DefRec):Bool:=plainParams d.params && d.scope.kind == .function && !d.scope.isCoroutine && !d.scope.isGenerator && decide (d.scope.names.map (·.1)).Nodup && (match fnNo d.name with
 | some n=>fnName n == some d.name && decide (n < 70)
 | none=>false)
noncomputable def goodMeth (d:MethRec):Bool:=plainParams d.params && d.scope.kind == .function && !d.scope.isCoroutine && !d.scope.isGenerator && decide (d.scope.names.map (·.1)).Nodup && (match methNames.lookup d.name with
 | some n=>mtName n == some d.name
 | none=>false)
noncomputable def adr:Option Value→Addr
 | some (.ref a)=>a
 | _=>0
noncomputable def fnaOf (mg mN:Str→Option Value) (n:Nat):Addr:=if n < 70 then adr ((fnName n).bind mg) else adr ((mtName (n - 70)).bind mN)
noncomputable def excName (k:Nat):Option Str:=(ownNames.find? (fun p=>p.2 == k)).map (·.1)
noncomputable def tyOf (mg:Str→Option Value):Nat→Value
 | 0 => .type "int"
 | 1 => .type "bool"
 | 2 => .type "tuple"
 | 3 => .type "list"
 | 4 => .type "ValueError"
 | n=>((excName n).bind fun x=>(mg x).bind fun v=>match v with | .ref a=>some (Value.ref a) | _=>none).getD .none
noncomputable def clvOf (C:Addr) (n:Nat):Value:=if n=0 then .ref C else .none
noncomputable def freeChk (p:Program) (loose:List Str):Bool:=(tyNames.map (·.1)++bltNames.map (·.1)++[sRange,sEnum]).all fun x=>
 !startupNames.contains x && !loose.contains x && !((recsOf p).map (·.name)).contains x && !((litsOf p).map (·.1)).contains x && !((clssOf p loose).map (·.name)).contains x && !(x == ("__name__" : Str))
theorem all2 {α:Type}{P:α→Prop}{a:α}{l:List α} (h:P a) (k:∀x,x∈l→P x):∀x,x∈a::l→P x:=fun x hx=>(List.mem_cons.mp hx).elim (fun e=>e ▸ h) (k x)
theorem boot_ty {mg:Str→Option Value}{x:Str}{t:Nat} (h:tyNames.lookup x=some t):bootBuiltins x=some (tyOf mg t) :=
 (show ∀p,p∈tyNames→bootBuiltins p.1=some (tyOf mg p.2) from all2 rfl (all2 rfl (all2 rfl (all2 rfl (all2 rfl nofun))))) _ (mem_of_lookup h)
theorem boot_blt {x:Str}{b:Blt} (h:bltNames.lookup x=some b):bootBuiltins x=some (bltVal b) :=
 (show ∀p,p∈bltNames→bootBuiltins p.1=some (bltVal p.2) from all2 rfl (all2 rfl (all2 rfl (all2 rfl (all2 rfl (all2 rfl (all2 rfl (all2 rfl nofun)))))))) _ (mem_of_lookup h)
theorem boot_range : bootBuiltins sRange = some (.type "range") := rfl
section
variable {p:Program}{loose:List Str}{mean:ExcName→Option Value}{mg mb:Str→Option Value}{h:Heap}
theorem top_free (T0:Top p loose mean mg mb h) (hf:freeChk p loose=true) {x:Str} (hx:x∈tyNames.map (·.1)++bltNames.map (·.1)++[sRange,sEnum]):mg x=none∧mb x=bootBuiltins x:=by
 have:=List.all_eq_true.mp hf x hx
 simp only [Bool.and_eq_true,Bool.not_eq_true',List.contains_eq_mem,decide_eq_false_iff_not,beq_eq_false_iff_ne] at this
 revert this;refine rA fun hO0 h6=>?_;revert hO0;refine rA fun hO0 h5=>?_;revert hO0;refine rA fun hO0 h4=>?_;obtain ⟨⟨h1,h2⟩,h3⟩:=hO0
 exact ⟨T0.free x h1 h2 h3 h4 h5,T0.builtins x h6⟩
theorem lookup_mem {α:Type}{l:List (Str×α)}{x:Str}{a:α} (h:l.lookup x=some a):x∈l.map (·.1):=List.mem_map.mpr ⟨_,mem_of_lookup h,rfl⟩
theorem fna_of {mN:Str→Option Value}{x:Str}{n:Nat}{a:Addr} (hn:n < 70) (h1:fnName n=some x) (h2:mg x=some (.ref a)):fnaOf mg mN n=a:=by unfold fnaOf;rw [if_pos hn,h1];show adr (mg x)=a;rw [h2];rfl
theorem fna_m {mN:Str→Option Value}{x:Str}{m:Nat}{a:Addr} (h1:mtName m=some x) (h2:mN x=some (.ref a)):fnaOf mg mN (70 + m)=a:=by
 unfold fnaOf
 rw [if_neg (by exact ln1 [] (.no (.lt (.a (.k 70) .v0) (.k 70))) (.d 11) rfl),Nat.add_sub_cancel_left,h1];show adr (mN x)=a;rw [h2];rfl
noncomputable def CNone (h:Heap) (N:Addr):Prop:=∃m,h.Ns N m∧m sCls=none
theorem CNone.keeps {N:Addr} (x:CNone h N) (k:∀b o,h.get? b=some o→h'.get? b=some o):CNone h' N:=x.elim fun m q=>⟨m,q.1.keeps k,q.2⟩
structure SubAt (mg:Str→Option Value) (h:Heap) (x:Str) (C D:Addr) (cd dd:ClassData):Prop where
 c1:mg x=some (.ref C)
 d1:mg sSpan=some (.ref D)
 c2:∃o,h.get? C=some o∧o.data=.cls cd
 d2:∃o,h.get? D=some o∧o.data=.cls dd
 mro:cd.mro=.ref C::.ref D::bmV
 cn:CNone h cd.ns
 dn:CNone h dd.ns
 ne:C≠D
 far:∀y∈subs,y≠x→mg y≠some (.ref C)
noncomputable def Sub (mg:Str→Option Value) (h:Heap):Prop:=∀x∈subs,∃C D cd dd,SubAt mg h x C D cd dd
theorem cn_of {N:Addr} (h:(s.heap.isNs N && (s.heap.nsMap N sCls).isNone)=true):CNone s.heap N:=⟨_,.of_isNs (and_l h),Option.isNone_iff_eq_none.mp (and_r h)⟩
set_option tactic.hygienic true in
theorem sub_of (e:subOk s=true):Sub (s.heap.nsMap mainGlobals) s.heap:=fun x hx=>by
 have:=List.all_eq_true.mp e x hx
 split at this
 ·rename_i y z h1 h2
  refine byC fun hX=>?_;obtain ⟨C,o,cd⟩:=y;refine hX ?_;clear hX
  refine byC fun hX=>?_;obtain ⟨D,o',dd⟩:=z;refine hX ?_;clear hX
  refine rAA (fun q1 q2 q3=>?_) (Heap.clsAt_spec h1)
  refine rAA (fun r1 r2 r3=>?_) (Heap.clsAt_spec h2)
  have t6:(C == D)=false:=(Bool.not_eq_true' _).mp (and_r (and_l this))
  refine ⟨C,D,cd,dd,q1,r1,⟨o,q2,q3⟩,⟨o',r2,r3⟩,eq_of_beq (and_l (and_l (and_l (and_l this)))),cn_of (and_r (and_l (and_l (and_l this)))),cn_of (and_r (and_l (and_l this))),ne_of_beq_false t6,fun y hy hne h=>?_⟩
  have:=List.all_eq_true.mp (and_r this) y hy
  rw [beq_false_of_ne hne,h,beq_self_eq_true] at this
  exact ft this
 ·exact ft this
theorem Sub.keeps {mg:Str→Option Value} (x:Sub mg h) (k:∀b o,h.get? b=some o→h'.get? b=some o):Sub mg h':=fun y hy=>
 rEEEE (fun C D cd dd S=>⟨C,D,cd,dd,S.c1,S.d1,S.c2.elim fun o q=>⟨o,k _ _ q.1,q.2⟩,S.d2.elim fun o q=>⟨o,k _ _ q.1,q.2⟩,S.mro,S.cn.keeps k,S.dn.keeps k,S.ne,S.far⟩) (x y hy)
noncomputable def ownChk (p : Program) : Bool := ownNames.all fun q => specOf p q.1 == some ("ValueError.__new__", [.type "ValueError", .type "Exception", .type "BaseException", .type "object"])
theorem lk_any (x : Str) : ∃ y, typeLookup (.type "object") x = pure y := by
 rw [typeLookup_type]
 unfold builtinLookup
 have : builtinMro "object" = some [.type "object"] := by kernel_rfl
 rw [this]
 exact ⟨_,rfl⟩
section
variable {C N:Addr}{mN:Str→Option Value}{cr:ClsRec}
theorem ty_own {x:Str}{k:Nat}{a:Addr} (h:ownNames.lookup x=some k) (hm:mg x=some (.ref a)):tyOf mg k=.ref a:=by
 have hm':=mem_of_lookup h
 simp only [ownNames,List.mem_cons,List.not_mem_nil,or_false,Prod.mk.injEq] at hm'
 rcases hm' with ⟨rfl,rfl⟩ | ⟨rfl,rfl⟩ | ⟨rfl,rfl⟩ | ⟨rfl,rfl⟩
 ·show (((mg (Str.ofString "SpanError")).bind fun v => match v with | .ref a => some (Value.ref a) | _ => none).getD .none) = _; rw [hm]; rfl
 ·show (((mg (Str.ofString "BadStretch")).bind fun v => match v with | .ref a => some (Value.ref a) | _ => none).getD .none) = _; rw [hm]; rfl
 ·show (((mg (Str.ofString "Twice")).bind fun v => match v with | .ref a => some (Value.ref a) | _ => none).getD .none) = _; rw [hm]; rfl
 ·show (((mg (Str.ofString "Missing")).bind fun v => match v with | .ref a => some (Value.ref a) | _ => none).getD .none) = _; rw [hm]; rfl
theorem top_own (T0 : Top p loose mean mg mb h) (ho : ownChk p = true) {x : Str} {k : Nat} (hx : ownNames.lookup x = some k) : ∃ C, OwnClsQ x C [.type "ValueError", .type "Exception", .type "BaseException", .type "object"] "ValueError.__new__" mg h := by
 have:=List.all_eq_true.mp ho _ (mem_of_lookup hx)
 refine rEA (fun C O u2_=>?_) (T0.ownAt (beq_iff_eq.mp this))
 exact ⟨C,O⟩
theorem top_GK {bl : List (Str × Blt)} (hbl : ∀ x b, bl.lookup x = some b → bltNames.lookup x = some b) (T0 : Top p loose mean mg mb h) (prog : Program) (w : World) (hf : freeChk p loose = true) (hg : (recsOf p).all goodDef = true) (ho : ownChk p = true) (hC : mg sWood = some (.ref C)) :
  GK ⟨prog,w,h,tyOf mg,fnaOf mg mN,clvOf C,none⟩ (tabs1 bl (recsOf p)):=by
 refine ⟨⟨mg,mb,T0.g,T0.b,fun x t hx=>?_,fun x n hx=>?_,fun x b hx=>?_,?_⟩,⟨mg,T0.g,fun x k hx=>?_,fun x k hx=>?_⟩,fun x t hx=>?_⟩
 ·right
  have:=top_free T0 hf (x:=x) (List.mem_append_left _ (List.mem_append_left _ (lookup_mem hx)))
  exact ⟨this.1,by rw [this.2,boot_ty hx]⟩
 ·have hm:=mem_of_lookup hx
  refine rEA (fun d hd e=>?_) (List.mem_filterMap.mp hm)
  refine mapn_e (e) fun n' hn e=>?_
  cases e
  have hgd:=List.all_eq_true.mp hg d hd
  simp only [goodDef,hn,Bool.and_eq_true,beq_iff_eq,decide_eq_true_eq] at hgd
  refine rEEEEEAAA (fun a o pm code doc h1 h2 h3 h4=>?_) (T0.fn d hd)
  show mg d.name=some (.ref (fnaOf mg mN n))∧∃o fd,h.get? (fnaOf mg mN n)=some o∧o.data=.func fd
  rw [fna_of hgd.2.2 hgd.2.1 h1]
  exact ⟨h1,o,_,h2,h3⟩
 ·have:=top_free T0 hf (x:=x) (List.mem_append_left _ (List.mem_append_right _ (lookup_mem (hbl x b hx))))
  exact ⟨this.1,by rw [this.2,boot_blt (hbl x b hx)]⟩
 ·have:=top_free T0 hf (x:=sRange) (List.mem_append_right _ List.mem_cons_self)
  exact ⟨this.1,by rw [this.2,boot_range]⟩
 ·have hm:=mem_of_lookup hx
  simp only [tabs1,List.mem_cons,List.not_mem_nil,or_false,Prod.mk.injEq] at hm
  revert hm;refine rA fun hO0 hO1=>?_;refine eqS hO0 ?_;refine eqS hO1 ?_
  exact ⟨C,hC,rfl⟩
 ·left
  refine rE (fun D O=>?_) (top_own T0 ho hx)
  show mg x=some (tyOf mg k)
  rw [ty_own hx O.bound];exact O.bound
 ·have h1:tyNames.all (fun p=>decide (p.2 < 100))=true:=by decide
  have h2:ownNames.all (fun p=>decide (p.2 < 100))=true:=by decide
  rcases hx with hx | hx
  ·exact of_decide_eq_true (List.all_eq_true.mp h1 _ (mem_of_lookup hx))
  ·exact of_decide_eq_true (List.all_eq_true.mp h2 _ (mem_of_lookup hx))
theorem cFn_inv {T : Tabs} {m : Mode} {e : Nat} {as : Arguments} {sc : Scope} {body : List Stmt} {F : Fn} (h : cFn T m e as sc body = some F) :
  (as.args.map (·.arg)).mapM (fun x=>(slotsOf sc.names).lookup x)=some F.ps∧cSs T (fnC sc) body=some F.body∧F.size=(ownOf sc.names).length + e:=by
 refine bind_e (h) fun ps h1 h2=>?_
 refine rEA (fun b h3 hO2=>?_) (Option.map_eq_some_iff.mp h2);refine eqE hO2 ?_
 exact ⟨h1,h3,rfl⟩
set_option tactic.hygienic true in
theorem top_fnT {bl:List (Str×Blt)} (T0:Top p loose mean mg mb h) (prog:Program) (w:World) (hg:(recsOf p).all goodDef=true) {md:Nat→Mode}{n:Nat}{F:Fn} (hF:fnAt bl md (recsOf p) n=some F):∃x o fd body xs,fnNo x=some n∧fnName n=some x∧FnAt ⟨prog,w,h,tyOf mg,fnaOf mg mN,clvOf C,none⟩ (fnT (tabs1 bl (recsOf p)) x) n F o fd body xs:=by
 unfold fnAt at hF
 split at hF
 ·rename_i d hd
  have hmem:=List.mem_of_find?_eq_some hd
  have hnm:fnNo d.name=some n:=by have:=List.find?_some hd;simpa using this
  have hgd:=List.all_eq_true.mp hg d hmem
  simp only [goodDef,hnm,Bool.and_eq_true,beq_iff_eq,Bool.not_eq_true',decide_eq_true_eq] at hgd
  revert hgd;refine rAA fun hO0 g6 g7=>?_;revert hO0;refine rA fun hO0 g5=>?_;revert hO0;refine rA fun hO0 g4=>?_;obtain ⟨⟨g1,g2⟩,g3⟩:=hO0
  refine rEEEEEAAA (fun a o pm code doc h1 h2 h3 h4=>?_) (T0.fn d hmem)
  refine rAA (fun c1 c2 c3=>?_) (cFn_inv hF)
  have hat:FnAt ⟨prog,w,h,tyOf mg,fnaOf mg mN,clvOf C,none⟩ (fnT (tabs1 bl (recsOf p)) d.name) n F o (docDef d.name d.params d.body d.scope pm code doc) d.body (d.params.args.map (·.arg)):=⟨?_,h3,rfl,rfl,g2,g3,g4,g5,rfl,rfl,h4,fun vals hl=>bind_plain g1 vals hl,c1,c2,Nat.le_trans (Nat.le_add_right _ 8) (Nat.le_of_eq c3.symm)⟩
  ·exact ⟨d.name,o,_,_,_,hnm,g6,hat⟩
  show h.get? (fnaOf mg mN n)=some o
  rw [fna_of g7 g6 h1];exact h2
 ·exact nn hF
theorem top_fn {bl:List (Str×Blt)} (T0:Top p loose mean mg mb h) (prog:Program) (w:World) (hg:(recsOf p).all goodDef=true) {md:Nat→Mode}{n:Nat}{F:Fn} (hF:fnAt bl md (recsOf p) n=some F):FnOK ⟨prog,w,h,tyOf mg,fnaOf mg mN,clvOf C,none⟩ (tabs1 bl (recsOf p)) n F:=by
 refine rEEEEEAA (fun x o fd body xs u5_ u6_ hat=>?_) (top_fnT (mN:=mN) (C:=C) T0 prog w hg hF)
 refine ⟨_,o,fd,body,xs,?_,hat⟩
 unfold fnT
 split
 ·exact .inr rfl
 ·exact .inl rfl
theorem top_named {bl : List (Str × Blt)} (T0 : Top p loose mean mg mb h) (prog : Program) (w : World) (hg : (recsOf p).all goodDef = true) {md : Nat → Mode} {n : Nat} {F : Fn} (hF : fnAt bl md (recsOf p) n = some F) (hn : fnName n = some (Str.ofString "_law_named")) : ∃ o fd body xs, FnAt ⟨prog, w, h, tyOf mg, fnaOf mg mN, clvOf C, none⟩ (quiet (tabs1 bl (recsOf p))) n F o fd body xs := by
 refine rEEEEEAA (fun x o fd body xs u5_ hx hat=>?_) (top_fnT (mN:=mN) (C:=C) T0 prog w hg hF)
 rw [hn] at hx
 obtain rfl:=Option.some.inj hx
 refine ⟨o,fd,body,xs,?_⟩
 rwa [show fnT (tabs1 bl (recsOf p)) (Str.ofString "_law_named") = quiet (tabs1 bl (recsOf p)) from if_pos (beq_self_eq_true _)] at hat
set_option tactic.hygienic true in
theorem top_mt {bl:List (Str×Blt)} (P:PlainAt h cr C N mN) (prog:Program) (w:World) (hg:cr.meths.all goodMeth=true) {ds:List DefRec}{md:Nat→Mode}{m:Nat}{F:Fn} (hF:mtAt bl md ds cr.meths m=some F):FnOK ⟨prog,w,h,tyOf mg,fnaOf mg mN,clvOf C,none⟩ (tabs1 bl ds) (70 + m) F:=by
 unfold mtAt at hF
 split at hF
 ·rename_i d hd
  have hmem:=List.mem_of_find?_eq_some hd
  have hnm:methNames.lookup d.name=some m:=by have:=List.find?_some hd;simpa using this
  have hgd:=List.all_eq_true.mp hg d hmem
  simp only [goodMeth,hnm,Bool.and_eq_true,beq_iff_eq,Bool.not_eq_true',decide_eq_true_eq] at hgd
  revert hgd;refine rA fun hO0 g6=>?_;revert hO0;refine rA fun hO0 g5=>?_;revert hO0;refine rA fun hO0 g4=>?_;obtain ⟨⟨g1,g2⟩,g3⟩:=hO0
  refine rEEEEEAAAA (fun a o pm code doc h1 h2 u7_ h3 h4=>?_) (P.meths d hmem)
  refine rAA (fun c1 c2 c3=>?_) (cFn_inv hF)
  have hat : FnAt ⟨prog, w, h, tyOf mg, fnaOf mg mN, clvOf C, none⟩ (tabs1 bl ds) (70 + m) F o (methDef d.name (cr.name ++ "." ++ d.name) d.params d.body d.scope pm code doc) d.body (d.params.args.map (·.arg)) := ⟨?_, h3, rfl, rfl, g2, g3, g4, g5, rfl, rfl, h4, fun vals hl => bind_meth g1 vals hl, c1, c2, Nat.le_trans (Nat.le_add_right _ 8) (Nat.le_of_eq c3.symm)⟩
  ·exact ⟨_,o,_,_,_,.inl rfl,hat⟩
  show h.get? (fnaOf mg mN (70 + m))=some o
  rw [fna_m g6 h1];exact h2
 ·exact nn hF
theorem has_mt (P : PlainAt h cr C N mN) (hg : cr.meths.all goodMeth = true) {m : Nat} (hm : hasMt cr.meths m = true) : ∃ x a o fd, mtName m = some x ∧ mN x = some (.ref a) ∧ fnaOf mg mN (70 + m) = a ∧ h.get? a = some o ∧ o.cls = .type "function" ∧ o.data = .func fd := by
 refine rEA (fun d hmem hd=>?_) (List.any_eq_true.mp hm)
 have hnm:methNames.lookup d.name=some m:=by simpa using hd
 have hgd:=List.all_eq_true.mp hg d hmem
 simp only [goodMeth,hnm,Bool.and_eq_true,beq_iff_eq] at hgd
 refine rEEEEEAAAA (fun a o pm code doc h1 h2 h0 h3 h4=>?_) (P.meths d hmem)
 exact ⟨d.name,a,o,_,hgd.2,h1,fna_m hgd.2 h1,h2,h0,h3⟩
noncomputable def quietChk (cr : ClsRec) : Bool := [Str.ofString "__getattribute__", Str.ofString "__getattr__", Str.ofString "__setattr__", Str.ofString "top", Str.ofString "many"].all fun x => cr.quiet.contains x
set_option tactic.hygienic true in
theorem top_WK {bl:List (Str×Blt)} (P:PlainAt h cr C N mN) (prog:Program) (w:World) (hg:cr.meths.all goodMeth=true) (hq:quietChk cr=true) {md:Nat→Mode}{ds:List DefRec}:WK ⟨prog,w,h,tyOf mg,fnaOf mg mN,clvOf C,none⟩ (tabs1 bl ds) (pgOf bl md ds cr.meths):=by
 have qt : ∀ x ∈ [Str.ofString "__getattribute__", Str.ofString "__getattr__", Str.ofString "__setattr__", Str.ofString "top", Str.ofString "many"], mN x = none := fun x hx => P.quiet x (by have := List.all_eq_true.mp hq x hx; simpa using this)
 refine ⟨fun c C' hc=>?_,fun t i=>?_,fun x k hx=>?_⟩
 ·have hc0 : c = 0 ∧ C' = C := by
   have hc:clvOf C c=.ref C':=hc
   unfold clvOf at hc
   split at hc
   ·rename_i h0;cases hc;exact ⟨h0,rfl⟩
   ·cases hc
  revert hc0;refine rA fun hO0 hO1=>?_;refine eqS hO0 ?_;refine eqS hO1 ?_
  refine ⟨N,mN,P.cls,qt _ (.head _),qt _ (.tail _ (.head _)),qt _ (.tail _ (.tail _ (.head _))),fun k hk=>?_,fun x m f hx hf=>?_,fun f hf=>?_⟩
  ·have:k=0∨k=1:=by exact ln1 [(.lt .v0 (.k 2))] (.or (.eq .v0 .k0) (.eq .v0 .k1)) (.s (.s (.d 11) (.d 111)) (.s (.d 111) (.d 1011))) rfl hk
   rcases this with rfl | rfl
   ·exact qt _ (.tail _ (.tail _ (.tail _ (.head _))))
   ·exact qt _ (.tail _ (.tail _ (.tail _ (.tail _ (.head _)))))
  ·refine ite_e ((show (if (0 == 0 && hasMt cr.meths m)=true then some (70 + m) else none)=some f from hf)) fun h1 h2=>?_
   cases h2
   refine rEEEEAAAAA (fun x' a o fd q1 q2 q3 q4 q5 q6=>?_) (has_mt (mg:=mg) P hg (by simpa using h1))
   have hxx:x=x'∧x ∉ [atn 0,atn 1]:=by
    exact (show ∀p,p∈methNames→∀x',mtName p.2=some x'→p.1=x'∧p.1 ∉ [atn 0,atn 1] from all2 (fun u_ q=>⟨Option.some.inj q,by decide⟩) (all2 (fun u_ q=>⟨Option.some.inj q,by decide⟩) (all2 (fun u_ q=>⟨Option.some.inj q,by decide⟩) (all2 (fun u_ q=>⟨Option.some.inj q,by decide⟩) (all2 (fun u_ q=>⟨Option.some.inj q,by decide⟩) (all2 (fun u_ q=>⟨Option.some.inj q,by decide⟩) (all2 (fun u_ q=>⟨Option.some.inj q,by decide⟩) (all2 (fun u_ q=>⟨Option.some.inj q,by decide⟩) (all2 (fun u_ q=>⟨Option.some.inj q,by decide⟩) (all2 (fun u_ q=>⟨Option.some.inj q,by decide⟩) (all2 (fun u_ q=>⟨Option.some.inj q,by decide⟩) (all2 (fun u_ q=>⟨Option.some.inj q,by decide⟩) (all2 (fun u_ q=>⟨Option.some.inj q,by decide⟩) (all2 (fun u_ q=>⟨Option.some.inj q,by decide⟩) (all2 (fun u_ q=>⟨Option.some.inj q,by decide⟩) nofun))))))))))))))) _ (mem_of_lookup (show methNames.lookup x=some m from hx)) _ q1
   refine byC fun hX=>?_;revert hxx;refine rA fun hO0 hnx=>?_;obtain rfl:=hO0;refine hX ?_;clear hX
   show x ∉ _∧mN x=some (.ref (fnaOf mg mN (70 + m)))∧(∃o fd,h.get? (fnaOf mg mN (70 + m))=some o∧_)∧_
   rw [q3]
   exact ⟨hnx,q2,⟨o,fd,q4,q5,q6⟩,lk_any x⟩
  ·refine ite_e ((show (if (0 == 0 && hasMt cr.meths 0)=true then some 70 else none)=some f from hf)) fun h1 h2=>?_
   cases h2
   refine rEEEEAAAAA (fun x' a o fd q1 q2 q3 q4 q5 q6=>?_) (has_mt (mg:=mg) P hg (by simpa using h1))
   cases q1
   show mN "__init__" = some (.ref (fnaOf mg mN (70 + 0))) ∧ ∃ o, h.get? (fnaOf mg mN (70 + 0)) = some o ∧ _
   rw [q3]
   exact ⟨q2,o,q4,q5⟩
 ·show tyOf mg t≠.builtin i
  intro e
  unfold tyOf at e
  split at e
  any_goals (cases e;done)
  cases hx:((excName t).bind fun x=>(mg x).bind fun v=>match v with | .ref a=>some (Value.ref a) | _=>none) with
  | none=>rw [hx] at e;cases e
  | some v=>
   rw [hx] at e
   refine bind_e (hx) fun x u1_ h2=>?_
   refine bind_e (h2) fun v' u1_ h4=>?_
   have e:v=.builtin i:=e
   subst e
   cases v' <;> cases h4
 ·have hm:=mem_of_lookup hx
  simp only [tabs1,List.mem_cons,List.not_mem_nil,or_false,Prod.mk.injEq] at hm
  rcases hm with ⟨rfl,rfl⟩ | ⟨rfl,rfl⟩
  ·exact ⟨by decide,rfl⟩
  ·exact ⟨by decide,rfl⟩
theorem top_EK {bl:List (Str×Blt)} (T0:Top p loose mean mg mb h) (prog:Program) (w:World) (ho:ownChk p=true) (hs:Sub mg h) {ds:List DefRec}:EK ⟨prog,w,h,tyOf mg,fnaOf mg mN,clvOf C,none⟩ (tabs1 bl ds):=by
 refine ⟨fun x k hx=>?_,fun x t k hx hk=>?_⟩
 ·refine rE (fun D O=>?_) (top_own T0 ho hx)
  exact ⟨D,_,_,_,_,mg,ty_own hx O.bound,PySem.F.excBase_ValueError,by decide,O⟩
 ·have own : ∀ x k, ownNames.lookup x = some k → ∀ C D, tyOf mg k = .ref C → tyOf mg k = .ref D → ∃ o cd, h.get? C = some o ∧ o.data = .cls cd ∧ cd.mro.contains (.ref D) = true := fun x k hx C D h1 h2 => by
   rw [h1] at h2;cases h2
   refine rE (fun E O=>?_) (top_own T0 ho hx)
   have:=ty_own hx O.bound
   rw [this] at h1;cases h1
   refine rEEEEEEEEEEEEEEEEEA (fun bm N nm q bs hdct sn sub ab col dd k0 k1 k2 k3 k5 mN hC u18_=>?_) O.obj
   exact ⟨_,_,hC,rfl,by simp⟩
  have down:∀x k,ownNames.lookup x=some k→x∈subs→∀C D,tyOf mg k=.ref C→tyOf mg 10=.ref D→∃o cd,h.get? C=some o∧o.data=.cls cd∧cd.mro.contains (.ref D)=true:=fun x k hx hm C D h1 h2=>by
   refine rEEEE (fun C' D' cd dd S=>?_) (hs x hm)
   rw [ty_own hx S.c1] at h1;cases h1
   rw [ty_own (x:=sSpan) (k:=10) rfl S.d1] at h2;cases h2
   refine rEA (fun o q3 q4=>?_) S.c2
   exact ⟨o,cd,q3,q4,by rw [S.mro];simp⟩
  have four:∀t,excSub k t=true→k=t∨(t=10∧(k=11∨k=12∨k=13)):=fun t hk=>by
   simp only [excSub,Bool.or_eq_true,Bool.and_eq_true,beq_iff_eq] at hk
   rcases hk with h | ⟨h,(h' | h') | h'⟩
   ·exact .inl h
   ·exact .inr ⟨h,.inl h'⟩
   ·exact .inr ⟨h,.inr (.inl h')⟩
   ·exact .inr ⟨h,.inr (.inr h')⟩
  rcases four t hk with rfl | ⟨rfl,rfl | rfl | rfl⟩
  ·exact ⟨⟨x,hx⟩,own x k hx⟩
  ·exact ⟨⟨Str.ofString "BadStretch", rfl⟩, down _ 11 rfl (.head _)⟩
  ·exact ⟨⟨Str.ofString "Twice", rfl⟩, down _ 12 rfl (.tail _ (.head _))⟩
  ·exact ⟨⟨Str.ofString "Missing", rfl⟩, down _ 13 rfl (.tail _ (.tail _ (.head _)))⟩
theorem mem_subs {x:Str}{c:Nat} (hx:ownNames.lookup x=some c) (hc:c=11∨c=12∨c=13):x∈subs:=by
 have hm:=mem_of_lookup hx
 simp only [ownNames,List.mem_cons,List.not_mem_nil,or_false,Prod.mk.injEq] at hm
 rcases hm with ⟨_,rfl⟩ | ⟨rfl,_⟩ | ⟨rfl,_⟩ | ⟨rfl,_⟩
 ·lia
 ·exact .head _
 ·exact .tail _ (.head _)
 ·exact .tail _ (.tail _ (.head _))
theorem own_name {c:Nat} (hc:c=10∨c=11∨c=12∨c=13):∃x,ownNames.lookup x=some c:=by
 rcases hc with rfl | rfl | rfl | rfl
 ·exact ⟨sSpan,rfl⟩
 ·exact ⟨Str.ofString "BadStretch", rfl⟩
 ·exact ⟨Str.ofString "Twice", rfl⟩
 ·exact ⟨Str.ofString "Missing", rfl⟩
theorem sub_obj {x : Str} {C D N : Addr} {cd dd : ClassData} {nm q : Str} {bs bm : List Value} {hdct : Bool} {sn : List Str} {sub : List Value} {ab : Bool} {col : Option Bool} {d0 : Option Addr} {k0 k1 k2 k3 k5 : Option Value} {newId : String} {mN : Str → Option Value} (S : SubAt mg h x C D cd dd)
  (hC:h.get? C=some (excClassObj nm q C N bs bm hdct sn sub ab col d0 k0 k1 k2 k3 k5 newId)) (hN:h.Ns N mN):bm=.ref D::bmV∧mN sCls=none:=by
 refine rEA (fun o q3 q4=>?_) S.c2
 have e:ClassData.mro cd=.ref C::bm∧cd.ns=N:=by rw [hC] at q3;cases q3;cases q4;exact ⟨rfl,rfl⟩
 refine ⟨(List.cons.inj (e.1.symm.trans S.mro)).2,?_⟩
 refine rEA (fun m q8 q9=>?_) S.cn
 rw [hN.eq_nsMap,← e.2,← q8.eq_nsMap];exact q9
theorem subTail {x:Str}{C D:Addr}{cd dd:ClassData} (S:SubAt mg h x C D cd dd):TailN sCls h bmV (.ref D::bmV):=by
 refine rEA (fun o q6 q7=>?_) S.d2
 refine byC fun hX=>?_;obtain ⟨c0,dct,dt,sl⟩:=o;refine hX ?_;clear hX
 cases q7
 exact rEA (fun m q10 q11=>.own q6 q10 q11 .base) S.dn
theorem ty_inj {x y:Str}{k:Nat}{a b:Addr} (hx:ownNames.lookup x=some k) (hy:ownNames.lookup y=some k) (ha:mg x=some (.ref a)) (hb:mg y=some (.ref b)):a=b:=Value.ref.inj ((ty_own hx ha).symm.trans (ty_own hy hb))
theorem sub_has (hs : Sub mg h) {x y : Str} {c t : Nat} (hx : ownNames.lookup x = some c) (hc : c = 11 ∨ c = 12 ∨ c = 13) (hy : ownNames.lookup y = some t) (ht : t = 10 ∨ t = 11 ∨ t = 12 ∨ t = 13) {C D G : Addr} {cd dd : ClassData} (S : SubAt mg h x C D cd dd) (hG : mg y = some (.ref G)) :
  (Value.ref C::.ref D::bmV).contains (.ref G)=(excSub c t || t == 4):=by
 rcases ht with h10 | ht
 ·have e:D=G:=ty_inj (x:=sSpan) (k:=10) rfl (h10 ▸ hy) S.d1 hG
  have:(excSub c t || t == 4)=true:=by rw [h10];rcases hc with e | e | e <;> rw [e] <;> rfl
  rw [this,e];simp
 ·by_cases hct:c=t
  ·have e:C=G:=ty_inj hx (hct ▸ hy) S.c1 hG
   have:(excSub c t || t == 4)=true:=by rw [hct,excSub,beq_self_eq_true];rfl
   rw [this,e];simp
  ·have hys:=mem_subs hy ht
   have n1:G≠C:=fun e=>S.far y hys (fun e=>hct (Option.some.inj (hx.symm.trans (e ▸ hy)))) (e ▸ hG)
   have n2:G≠D:=by
    refine rEEEE (fun C2 D2 cd2 dd2 S2=>?_) (hs y hys)
    have e1:C2=G:=Value.ref.inj (Option.some.inj (S2.c1.symm.trans hG))
    have e2:D2=D:=Value.ref.inj (Option.some.inj (S2.d1.symm.trans S.d1))
    rw [← e1,← e2];exact S2.ne
   have:(excSub c t || t == 4)=false:=by
    rw [excSub,beq_false_of_ne hct]
    rcases ht with e | e | e <;> rw [e] <;> rfl
   rw [this];simp [bmV,n1,n2]
theorem top_ty (T0:Top p loose mean mg mb h) (ho:ownChk p=true) (hs:Sub mg h) (prog:Program) (w:World) (f:Nat→Addr) (g:Nat→Value):TyOK ⟨prog,w,h,tyOf mg,f,g,none⟩:=by
 refine ⟨rfl,rfl,rfl,rfl,fun u hu=>(by exact nn hu),fun A c t r hr s a o keep ha hc Q E hq=>?_⟩
 refine rA (fun h0 e=>?_) (ite_some (show (if (c=11∨c=12∨c=13)∧(t=4∨t=10∨t=11∨t=12∨t=13) then some (excSub c t || t == 4) else .none)=some r from hr))
 have e:=Option.some.inj e
 rw [← e] at hq
 refine rE (fun x hx=>?_) (own_name (.inr h0.1))
 refine rEEEE (fun C D cd dd S=>?_) (hs x (mem_subs hx h0.1))
 refine rE (fun C' O=>?_) (top_own T0 ho hx)
 obtain rfl:=Value.ref.inj (Option.some.inj (S.c1.symm.trans O.bound))
 have hc:o.cls=.ref C:=Eq.trans (show o.cls=tyOf mg c from hc) (ty_own hx S.c1)
 refine rEEEEEEEEEEEEEEEEEAAA (fun bm N nm q bs hdct sn sub ab col dd0 k0 k1 k2 k3 k5 mN hC hN hqn TQ=>?_) O.obj
 have so:=sub_obj S hC hN
 show wpAny (model prog w) A (call (.builtin "isinstance") [.ref a, tyOf mg t]) Q E s
 rcases h0.2 with h4 | ht4
 ·rw [h4]
  rw [h4,show (excSub c 4 || 4 == 4)=true from Bool.or_true _] at hq
  exact call_isy_val (keep _ _ hC) ha hc (by rw [so.1,List.contains_cons,List.contains_cons];rfl) (hq _)
 ·refine rE (fun y hy=>?_) (own_name ht4)
  refine rE (fun G OG=>?_) (top_own T0 ho hy)
  rw [ty_own hy OG.bound]
  rw [← sub_has hs hx h0.1 hy ht4 S OG.bound,← so.1] at hq
  refine rEEEEEEEEEEEEEEEEEA (fun u0_ u1_ u2_ u3_ u4_ u5_ u6_ u7_ u8_ u9_ u10_ u11_ u12_ u13_ u14_ u15_ u16_ hGo u18_=>?_) OG.obj
  cases hcon:(Value.ref C::bm).contains (.ref G) with
  | true=>rw [hcon] at hq;exact call_isy_exc (keep _ _ hC) ha hc (keep _ _ hGo) hcon (hq _)
  | false=>rw [hcon] at hq;exact call_isn_exc PySem.F.attrBase_ValueError (keep _ _ hC) (by rw [so.1];rfl) (hN.keeps keep) hqn (TQ.keeps keep) so.2 (TailN.keeps (so.1 ▸ subTail S) keep) ha hc (keep _ _ hGo) hcon (hq _)
set_option tactic.hygienic true in
theorem law_end {bl : List (Str × Blt)} (hbl : ∀ x b, bl.lookup x = some b → bltNames.lookup x = some b) (T0 : Top p loose mean mg mb h) (P : PlainAt h cr C N mN) (hC : mg sWood = some (.ref C)) (hs' : Sub mg h) (prog : Program) (w : World) (hf : freeChk p loose = true) (hg : (recsOf p).all goodDef = true) (ho : ownChk p = true)
  (hg':cr.meths.all goodMeth=true) (hq':quietChk cr=true) {md:Nat→Mode}{d n:Nat}{A:Around} (rm:Rm d A) (hA:A.frames=some []) (hs:(∃x,bl.lookup x=some .sorted)→∀K A,Rm 0 A→SortOK K A)
  {s:Shared} (es:s.heap=h) {l:List Int}{vs:List Value}{ax:Addr} (hx:h.get? ax=some (listObj vs 0)) (hv:∀K,RVs K [] h (l.map V.int) vs) (hl:l.length≤lenMax) {σ':H}{x:Str}{fa:Addr} (hn7:n < 70) (hn:fnName n=some x) (hm:mg x=some (.ref fa))
  (hc:callF (pgOf bl md (recsOf p) cr.meths) d n [.frz l] []=some (.ok (.bool true),σ')) {Q:Value→Shared→Prop}{E:Value→Shared→Prop}
  (hq:∀s':Shared,(∀b o,s.heap.get? b=some o→s'.heap.get? b=some o)→s'.os=s.os→s'.gens=s.gens→Q (.bool true) s'):wpAny (model prog w) A (call (.ref fa) [.ref ax]) Q E s:=by
 subst es
 have pk:PK ⟨prog,w,s.heap,tyOf mg,fnaOf mg mN,clvOf C,none⟩ (tabs1 bl (recsOf p)) (pgOf bl md (recsOf p) cr.meths):=by
  refine ⟨top_GK hbl T0 prog w hf hg ho hC,top_ty T0 ho hs' prog w _ _,top_WK P prog w hg' hq',top_EK T0 prog w ho hs',fun f F hF=>?_,T0.nolimit,fun hx A rm=>hs hx _ A rm,rfl,rfl,fun f F hf hF=>?_⟩
  rotate_left
  ·have hm := mem_of_lookup (show (tabs1 bl (recsOf p)).fns.lookup (Str.ofString "_law_named") = some f from hf)
   refine rEA (fun d hd e=>?_) (List.mem_filterMap.mp hm)
   refine mapn_e (e) fun n' hn e=>?_
   have e1 : d.name = Str.ofString "_law_named" := congrArg Prod.fst e
   have e2:n'=f:=congrArg Prod.snd e
   subst e2
   have hgd:=List.all_eq_true.mp hg d hd
   simp only [goodDef,hn,Bool.and_eq_true,beq_iff_eq,decide_eq_true_eq] at hgd
   rw [e1] at hgd
   have hF:(if n' < 70 then fnAt bl md (recsOf p) n' else mtAt bl md (recsOf p) cr.meths (n' - 70))=some F:=hF
   rw [if_pos hgd.2.2] at hF
   exact top_named T0 prog w hg hF hgd.2.1
  have hF:(if f < 70 then fnAt bl md (recsOf p) f else mtAt bl md (recsOf p) cr.meths (f - 70))=some F:=hF
  split at hF
  ·exact top_fn T0 prog w hg hF
  ·have:=top_mt (mg:=mg) P prog w hg' hF
   rwa [show 70 + (f - 70)=f by exact ln2 [(.sb .v0 .v1 (.k 70)),(.no (.lt .v1 (.k 70)))] (.eq (.a (.k 70) .v0) .v1) (.s (.s (.d 11001) (.d 11101)) (.s (.d 1101) (.d 110101))) rfl (sub_ax _ _) ‹_›] at this
 have hr:HR ⟨prog,w,s.heap,tyOf mg,fnaOf mg mN,clvOf C,none⟩ [] [] s.heap:=⟨fun u_ v_ e=>e,rfl,List.nodup_nil,(fun a h=>nomatch h),fun n o a h1 u_=>by simp at h1⟩
 have:=call_sound pk d A rm n [.frz l] [] (.bool true) σ' hc [] s [.ref ax] hr (.cons (.frz hx (hv _) hl) .nil) (fun fs hfs env he=>by rw [hA] at hfs;obtain rfl:=Option.some.inj hfs;cases he)
 have e:fnaOf mg mN n=fa:=fna_of hn7 hn hm
 unfold TR at this
 simp only [e] at this
 refine wpAny_mono this (fun v s' hq'=>?_) fun u_ v_ f=>f.elim
 revert hq';refine rEA fun ρ' g rv=>?_
 obtain rfl:=rv.boolI rfl
 exact hq s' g.hr.keep g.st.os g.st.gens
end
end
end Mini.Internal
namespace Mini.Internal
open PySem PySem.W PyProof.Rows
variable {ρ ρ' ρ1:List Addr}{σ σ' σ1:H}{s s' s1:Shared}{h h':Heap}{ℓ ℓ':L}
theorem wellall_head {P:Params}{d:WData}{ds:List WData}{vs:List Value} (r:WellAll P h vs (d::ds)):∃w wr,vs=w::wr∧Well P h w d∧WellAll P h wr ds:=by
 cases r with
 | cons a b=>exact ⟨_,_,rfl,a,b⟩
theorem wellall_nil {P:Params}{vs:List Value} (r:WellAll P h vs []):vs=[]:=by
 cases r with
 | nil=>rfl
theorem well_int {P:Params}{i:Int}{w:Value} (r:Well P h w (.int i)):∃t,w=.int i t:=by
 cases r with
 | int _ t=>exact ⟨t,rfl⟩
theorem wellall_ints {K:Kx}{P:Params}:∀{l:List Int}{vs:List Value},WellAll P h vs (ofPys (l.map .int))→RVs K [] h' (l.map V.int) vs
 | [],vs,r=>by rw [wellall_nil r];exact .nil
 | i::l,vs,r=>by
  refine byC fun hX=>?_;refine rEEAA (fun w wr hO2 r0 rs=>?_) (wellall_head r);obtain rfl:=hO2;refine hX ?_;clear hX
  refine byC fun hX=>?_;refine rE (fun t hO1=>?_) (well_int r0);obtain rfl:=hO1;refine hX ?_;clear hX
  exact .cons (.int i t) (wellall_ints (l:=l) rs)
theorem well_ints {P:Params}{l:List Int}{ax:Addr} (w:Well P h (.ref ax) (ofPy (.list (l.map .int)))):∃vs,h.get? ax=some (listObj vs 0)∧∀K,RVs K [] h' (l.map V.int) vs:=by
 have e:ofPy (.list (l.map .int))=.list (ofPys (l.map .int)):=rfl
 rw [e] at w
 cases w with
 | list h1 h2=>exact ⟨_,h1,fun K=>wellall_ints h2⟩
theorem rm_caller:Rm 340 callerA:=⟨rfl,by decide,by decide,⟨[],rfl⟩⟩
end Mini.Internal
namespace Mini.Internal
open PySem PyProof.Rows
variable {ρ ρ' ρ1:List Addr}{σ σ' σ1:H}{s s' s1:Shared}{h h':Heap}{ℓ ℓ':L}
theorem le3_iff (x y:T3):T3.le x y=true↔(x.a < y.a∨(x.a=y.a∧(x.b < y.b∨(x.b=y.b∧x.c≤y.c)))):=by
 simp [T3.le]
theorem le3_refl (x:T3):T3.le x x=true:=by rw [le3_iff];exact lz3 [] (.or (.zlt .v0 .v0) (.an (.zeq .v0 .v0) (.or (.zlt .v1 .v1) (.an (.zeq .v1 .v1) (.zle .v2 .v2))))) (.s (.s (.d 101) (.d 101)) (.s (.s (.d 1001) (.d 1001)) (.d 1001))) rfl
theorem le3_trans {x y z:T3} (h:T3.le x y=true) (h':T3.le y z=true):T3.le x z=true:=by rw [le3_iff] at *;exact lin [(.or (.zlt .v0 .v6) (.an (.zeq .v0 .v6) (.or (.zlt .v2 .v7) (.an (.zeq .v2 .v7) (.zle .v4 .v8))))),(.or (.zlt .v6 .v1) (.an (.zeq .v6 .v1) (.or (.zlt .v7 .v3) (.an (.zeq .v7 .v3) (.zle .v8 .v5)))))] (.or (.zlt .v0 .v1) (.an (.zeq .v0 .v1) (.or (.zlt .v2 .v3) (.an (.zeq .v2 .v3) (.zle .v4 .v5))))) (.s (.s (.s (.s (.d 111) (.s (.d 111) (.d 111))) (.s (.s (.d 111) (.s (.d 111) (.d 111))) (.s (.d 111) (.s (.d 111) (.d 111))))) (.s (.s (.d 10111) (.s (.d 10111) (.d 10111))) (.s (.s (.d 1011001) (.s (.d 1011001) (.d 1011001))) (.s (.d 101100001) (.s (.d 101100001) (.d 101100001)))))) (.s (.s (.s (.s (.d 1011) (.s (.d 1011) (.d 1011))) (.s (.s (.d 1011) (.s (.d 1011) (.d 1011))) (.s (.d 1011) (.s (.d 1011) (.d 1011))))) (.s (.s (.d 110011) (.s (.d 110011) (.d 110011))) (.s (.s (.d 11001001) (.s (.d 1001001001) (.d 1001001001))) (.s (.d 1100100001) (.s (.d 100100100001) (.d 100100100001)))))) (.s (.s (.d 110011) (.s (.d 110011) (.d 110011))) (.s (.s (.d 11001001) (.s (.d 1010001001) (.d 1010001001))) (.s (.d 1100100001) (.s (.d 101000100001) (.d 10010000100001))))))) rfl [] [_,_,_,_,_,_,_,_,_] h h'
theorem le3_total {x y:T3} (h:T3.le x y=false):T3.le y x=true:=by
 rw [← Bool.not_eq_true,le3_iff] at h;rw [le3_iff];exact lz6 [(.no (.or (.zlt .v1 .v0) (.an (.zeq .v1 .v0) (.or (.zlt .v3 .v2) (.an (.zeq .v3 .v2) (.zle .v5 .v4))))))] (.or (.zlt .v0 .v1) (.an (.zeq .v0 .v1) (.or (.zlt .v2 .v3) (.an (.zeq .v2 .v3) (.zle .v4 .v5))))) (.s (.s (.s (.s (.d 111) (.d 111)) (.s (.s (.d 111) (.d 111)) (.d 111))) (.s (.s (.d 1011) (.d 1011)) (.s (.s (.d 1011) (.d 1011)) (.d 1011)))) (.s (.s (.s (.s (.d 1011) (.d 1011)) (.s (.s (.d 1011) (.d 1011)) (.d 1011))) (.s (.s (.d 100011) (.d 110001)) (.s (.s (.d 100101) (.d 100101)) (.d 100101)))) (.s (.s (.d 100011) (.d 110001)) (.s (.s (.d 1000011) (.d 1010001)) (.d 1001001))))) rfl h
theorem lt_nle {x y:T3} (h:x.a < y.a∨(x.a=y.a∧(x.b < y.b∨(x.b=y.b∧x.c < y.c)))):T3.le y x=false:=Bool.eq_false_iff.mpr fun h'=>by rw [le3_iff] at h';exact lz6 [(.or (.zlt .v0 .v1) (.an (.zeq .v0 .v1) (.or (.zlt .v2 .v3) (.an (.zeq .v2 .v3) (.zlt .v4 .v5))))),(.or (.zlt .v1 .v0) (.an (.zeq .v1 .v0) (.or (.zlt .v3 .v2) (.an (.zeq .v3 .v2) (.zle .v5 .v4)))))] .ff (.s (.s (.d 111) (.s (.d 111) (.d 111))) (.s (.s (.d 11001) (.s (.d 1001001) (.d 1001001))) (.s (.d 1100001) (.s (.d 100100001) (.d 10000100001))))) rfl h h'
theorem nlt_le {x y:T3} (h:¬ (x.a < y.a∨(x.a=y.a∧(x.b < y.b∨(x.b=y.b∧x.c < y.c))))):T3.le y x=true:=by rw [le3_iff];exact lz6 [(.no (.or (.zlt .v1 .v0) (.an (.zeq .v1 .v0) (.or (.zlt .v3 .v2) (.an (.zeq .v3 .v2) (.zlt .v5 .v4))))))] (.or (.zlt .v0 .v1) (.an (.zeq .v0 .v1) (.or (.zlt .v2 .v3) (.an (.zeq .v2 .v3) (.zle .v4 .v5))))) (.s (.s (.s (.s (.d 111) (.d 111)) (.s (.s (.d 111) (.d 111)) (.d 111))) (.s (.s (.d 1011) (.d 1011)) (.s (.s (.d 1011) (.d 1011)) (.d 1011)))) (.s (.s (.s (.s (.d 1011) (.d 1011)) (.s (.s (.d 1011) (.d 1011)) (.d 1011))) (.s (.s (.d 100011) (.d 110001)) (.s (.s (.d 100101) (.d 100101)) (.d 100101)))) (.s (.s (.d 100011) (.d 110001)) (.s (.s (.d 1000011) (.d 1010001)) (.d 1001001))))) rfl h
theorem le3_antisymm {x y:T3} (h:T3.le x y=true) (h':T3.le y x=true):x=y:=by
 rw [le3_iff] at h h'
 have:x.a=y.a∧x.b=y.b∧x.c=y.c:=by exact lz6 [(.or (.zlt .v0 .v1) (.an (.zeq .v0 .v1) (.or (.zlt .v2 .v3) (.an (.zeq .v2 .v3) (.zle .v4 .v5))))),(.or (.zlt .v1 .v0) (.an (.zeq .v1 .v0) (.or (.zlt .v3 .v2) (.an (.zeq .v3 .v2) (.zle .v5 .v4)))))] (.an (.zeq .v0 .v1) (.an (.zeq .v2 .v3) (.zeq .v4 .v5))) (.s (.s (.s (.s (.d 1101) (.s (.d 1101) (.d 1101))) (.s (.s (.d 1101) (.s (.d 1101) (.d 1101))) (.s (.d 1101) (.s (.d 1101) (.d 1101))))) (.s (.s (.d 111) (.s (.d 111) (.d 111))) (.s (.s (.d 111) (.s (.d 111) (.d 111))) (.s (.d 111) (.s (.d 111) (.d 111)))))) (.s (.s (.s (.s (.d 1011) (.s (.d 1011) (.d 1011))) (.s (.s (.d 101001) (.s (.d 11000001) (.d 11000001))) (.s (.d 110001) (.s (.d 110001) (.d 110001))))) (.s (.s (.d 1011) (.s (.d 1011) (.d 1011))) (.s (.s (.d 11001) (.s (.d 11001) (.d 11001))) (.s (.d 11001) (.s (.d 11001) (.d 11001)))))) (.s (.s (.s (.d 1011) (.s (.d 1011) (.d 1011))) (.s (.s (.d 101001) (.s (.d 10001001) (.d 10001001))) (.s (.d 10100001) (.s (.d 1000100001) (.d 110000000001))))) (.s (.s (.d 1011) (.s (.d 1011) (.d 1011))) (.s (.s (.d 101001) (.s (.d 10001001) (.d 10001001))) (.s (.d 1100001) (.s (.d 1100001) (.d 1100001)))))))) rfl h h'
 cases x;cases y;simp_all
noncomputable def KS (key:Keyed→T3) (xs:Array Keyed) (i:Nat):T3:=key (xs[i]?.getD default)
theorem KS_congr {key:Keyed→T3}{xs ys:Array Keyed}{i j:Nat} (h:xs[i]? = ys[j]?):KS key xs i=KS key ys j:=by unfold KS;rw [h]
noncomputable def SegS (key:Keyed→T3) (xs:Array Keyed) (i j:Nat):Prop:=∀p q,i≤p→p≤q→q < j→T3.le (KS key xs p) (KS key xs q)=true
noncomputable def SegD (key:Keyed→T3) (xs:Array Keyed) (i j:Nat):Prop:=∀p q,i≤p→p≤q→q < j→T3.le (KS key xs q) (KS key xs p)=true
theorem KS_mirror {key : Keyed → T3} {xs : Array Keyed} {i j : Nat} (hj : j ≤ xs.size) (k : Nat) :
  KS key (mirror xs i j ((j - i) / 2)) k=if i≤k∧k < j then KS key xs (i + j - 1 - k) else KS key xs k:=by
 have e:=getElem?_mirror_all (i:=i) hj k
 by_cases h1:i≤k∧k < j
 ·rw [if_pos h1] at e ⊢;exact KS_congr e
 ·rw [if_neg h1] at e ⊢;exact KS_congr e
theorem KS_bubble {key : Keyed → T3} {xs : Array Keyed} {src d : Nat} (hs : src < xs.size) (hd : d ≤ src) (k : Nat) :
  KS key (bubble xs src d) k=if k=src - d then KS key xs src else if src - d < k∧k≤src then KS key xs (k - 1) else KS key xs k:=by
 have e:=getElem?_bubble hs d hd k
 by_cases h1:k=src - d
 ·rw [if_pos h1] at e ⊢;exact KS_congr e
 ·rw [if_neg h1] at e ⊢
  by_cases h2:src - d < k∧k≤src
  ·rw [if_pos h2] at e ⊢;exact KS_congr e
  ·rw [if_neg h2] at e ⊢;exact KS_congr e
structure SB (a₀:Array Keyed) (κ:SortKind) (lo hi:Nat) (st0 st:SortSt):Prop where
 perm:(arrOf st).Perm a₀
 kind:kindOf st=κ
 ok:failedOf st=none
 pend:pendingOf st=pendingOf st0
 out:∀k:Nat,k < lo∨hi≤k→(arrOf st)[k]? = (arrOf st0)[k]?
theorem SB.size {a₀:Array Keyed}{κ:SortKind}{lo hi:Nat}{st0 st:SortSt} (h:SB a₀ κ lo hi st0 st):(arrOf st).size=a₀.size:=h.perm.size_eq
theorem SB.mirror {a₀:Array Keyed}{κ:SortKind}{lo hi i j:Nat}{st0 st:SortSt} (h:SB a₀ κ lo hi st0 st) (h1:lo≤i) (h2:j≤hi) (h3:hi≤a₀.size):SB a₀ κ lo hi st0 (setArr st (mirror (arrOf st) i j ((j - i) / 2))) :=
 ⟨(mirror_perm _ _ _ _).trans h.perm,h.kind,h.ok,h.pend,fun k hk=>by
  show (PyProof.Rows.mirror (arrOf st) i j ((j - i) / 2))[k]? = _
  rw [getElem?_mirror_all (by rw [h.size];exact ln3 [(.le .v0 .v2),(.le .v2 .v1)] (.le .v0 .v1) (.d 1111) rfl h2 h3),if_neg (by exact ln5 [(.le .v3 .v0),(.le .v2 .v4),(.or (.lt .v1 .v3) (.le .v4 .v1))] (.no (.an (.le .v0 .v1) (.lt .v1 .v2))) (.s (.d 110101) (.d 101011)) rfl h1 h2 hk)];exact h.out k hk⟩
theorem SB.bubble {a₀:Array Keyed}{κ:SortKind}{lo hi src d:Nat}{st0 st:SortSt} (h:SB a₀ κ lo hi st0 st) (h1:lo≤src - d) (h0:d≤src) (h2:src < hi) (h3:hi≤a₀.size):SB a₀ κ lo hi st0 (setArr st (bubble (arrOf st) src d)) :=
 ⟨(bubble_perm _ _ _).trans h.perm,h.kind,h.ok,h.pend,fun k hk=>by
  show (PyProof.Rows.bubble (arrOf st) src d)[k]? = _
  rw [getElem?_bubble (by rw [h.size];exact ln3 [(.lt .v0 .v2),(.le .v2 .v1)] (.lt .v0 .v1) (.d 1111) rfl h2 h3) d h0,if_neg (by exact ln6 [(.le .v2 .v1),(.lt .v3 .v4),(.or (.lt .v0 .v2) (.le .v4 .v0)),(.sb .v1 .v3 .v5)] (.no (.eq .v0 .v1)) (.s (.s (.d 101101) (.d 101101)) (.s (.d 11001101) (.d 11001101))) rfl h1 h2 hk (sub_ax _ _)),if_neg (by exact ln5 [(.le .v3 .v0),(.lt .v2 .v4),(.or (.lt .v1 .v3) (.le .v4 .v1))] (.no (.an (.lt .v0 .v1) (.le .v1 .v2))) (.s (.d 110101) (.d 101011)) rfl h1 h2 hk)];exact h.out k hk⟩
noncomputable def LtOK (prog:Program) (w:World) (A:Around) (E:Value→Shared→Prop) (s:Shared) (κ:SortKind) (a₀:Array Keyed) (key:Keyed→T3):Prop :=
 ∀x y,x∈a₀.toList→y∈a₀.toList→∀(st:SortSt) (Q:Option Bool→SortSt→Prop),kindOf st=κ→Q (some (!T3.le (key y) (key x))) st→wpS (model prog w) A E s (lt' x y) Q st
theorem bub_at {p q x:Nat} (h:p≤q) (a b c:T3):(if x=q - (q - p) then a else if q - (q - p) < x∧x≤q then b else c)=if x=p then a else if p < x∧x≤q then b else c:=by rw [Nat.sub_sub_self h]
set_option tactic.hygienic true in
theorem ins_srt {f : Nat → T3} {lo p q i j : Nat} (hl : lo ≤ p) (_ : p ≤ q) (hs : ∀ i j, lo ≤ i → i ≤ j → j < q → T3.le (f i) (f j) = true) (hlo : ∀ i, lo ≤ i → i < p → T3.le (f i) (f q) = true) (hhi : ∀ i, p ≤ i → i < q → T3.le (f q) (f i) = true)
  (hi:lo≤i) (hij:i≤j) (hj:j≤q):T3.le (if i=p then f q else if p < i∧i≤q then f (i - 1) else f i) (if j=p then f q else if p < j∧j≤q then f (j - 1) else f j)=true:=by
 have one:∀{x:Nat},p < x→x≤q→x - 1 < q:=fun h h'=>Nat.lt_of_lt_of_le (Nat.sub_lt (Nat.lt_of_le_of_lt (Nat.zero_le _) h) Nat.zero_lt_one) h'
 by_cases c1:i=p
 ·rw [if_pos c1]
  by_cases c2:j=p
  ·rw [if_pos c2];exact le3_refl _
  ·have h2:p < j:=Nat.lt_of_le_of_ne (c1 ▸ hij) fun e=>c2 e.symm
   rw [if_neg c2,if_pos ⟨h2,hj⟩];exact hhi _ (Nat.le_sub_one_of_lt h2) (one h2 hj)
 ·rw [if_neg c1]
  by_cases c3:p < i
  ·have h2:p < j:=Nat.lt_of_lt_of_le c3 hij
   rw [if_pos ⟨c3,Nat.le_trans hij hj⟩,if_neg (Nat.ne_of_gt h2),if_pos ⟨h2,hj⟩]
   exact hs _ _ (Nat.le_sub_one_of_lt (Nat.lt_of_le_of_lt hl c3)) (Nat.sub_le_sub_right hij 1) (one h2 hj)
  ·have h1:i < p:=Nat.lt_of_le_of_ne (Nat.le_of_not_lt c3) c1
   rw [if_neg fun h=>c3 h.1]
   by_cases c2:j=p
   ·rw [if_pos c2];exact hlo _ hi h1
   ·rw [if_neg c2]
    by_cases c4:p < j
    ·rw [if_pos ⟨c4,hj⟩];exact hs _ _ hi (Nat.le_sub_one_of_lt (Nat.lt_trans h1 c4)) (one c4 hj)
    ·rw [if_neg fun h=>c4 h.1];exact hs _ _ hi hij (Nat.lt_of_lt_of_le (Nat.lt_of_le_of_ne (Nat.le_of_not_lt c4) c2) ‹p≤q›)
section
variable {prog:Program}{w:World}{A:Around}{E:Value→Shared→Prop}{s:Shared}{a₀:Array Keyed}{κ:SortKind}{key:Keyed→T3}
theorem mem_of_perm {xs:Array Keyed} (h:xs.Perm a₀) {i:Nat} (hi:i < xs.size):xs[i]∈a₀.toList:=(Array.perm_iff_toList_perm.mp h).mem_iff.mp (by simp)
theorem KS_get {xs:Array Keyed}{i:Nat} (hi:i < xs.size):KS key xs i=key xs[i]:=by unfold KS;rw [getElem?_pos xs i hi];rfl
theorem wpS_ifp {α:Type}{c:Prop} [Decidable c] {x y:StateT SortSt Sem α}{Q:α→SortSt→Prop}{st:SortSt} (h:c) (k:wpS (model prog w) A E s x Q st):wpS (model prog w) A E s (if c then x else y) Q st:=by rw [if_pos h];exact k
theorem wpS_ifn {α:Type}{c:Prop} [Decidable c] {x y:StateT SortSt Sem α}{Q:α→SortSt→Prop}{st:SortSt} (h:¬ c) (k:wpS (model prog w) A E s y Q st):wpS (model prog w) A E s (if c then x else y) Q st:=by rw [if_neg h];exact k
theorem wpS_elem {xs:Array Keyed}{i:Nat}{Q:Keyed→SortSt→Prop}{st:SortSt} (hi:i < xs.size) (h:Q xs[i] st):wpS (model prog w) A E s (elem' xs i) Q st:=by
 rw [elem'_eq,getElem?_pos xs i hi];exact wpS_pure h
theorem wpS_lt {lo hi : Nat} {st0 st : SortSt} {i j : Nat} {Q : Option Bool → SortSt → Prop} (H : LtOK prog w A E s κ a₀ key) (hB : SB a₀ κ lo hi st0 st) (hi' : i < a₀.size) (hj : j < a₀.size)
  (h:Q (some (!T3.le (KS key (arrOf st) j) (KS key (arrOf st) i))) st):wpS (model prog w) A E s (ltAt' i j) Q st:=by
 have h1:i < (arrOf st).size:=by rw [hB.size];exact hi'
 have h2:j < (arrOf st).size:=by rw [hB.size];exact hj
 rw [ltAt'_eq]
 refine wpS_bind (wpS_get ?_)
 show wpS _ _ _ _ (do let x ← elem' (arrOf st) i;let y ← elem' (arrOf st) j;lt' x y) Q st
 refine wpS_bind (wpS_elem h1 (wpS_bind (wpS_elem h2 ?_)))
 rw [KS_get h1,KS_get h2] at h
 exact H _ _ (mem_of_perm hB.perm h1) (mem_of_perm hB.perm h2) st Q hB.kind h
theorem wpS_insert {lo n ok : Nat} {st0 st : SortSt} {Q : Bool → SortSt → Prop} (H : LtOK prog w A E s κ a₀ key) (hn : lo + n ≤ a₀.size) (hok : ok ≤ n) (hB : SB a₀ κ lo (lo + n) st0 st) (hs : SegS key (arrOf st) lo (lo + ok))
  (h:∀st',SB a₀ κ lo (lo + n) st0 st'→SegS key (arrOf st') lo (lo + n)→gallopOf st'=gallopOf st→Q true st'):wpS (model prog w) A E s (binarySort' lo n ok) Q st:=by
 rw [binarySort'_eq]
 refine wpS_bind (wpS_mono (wpS_forRange (I:=fun k c st'=>c=(none,())∧SB a₀ κ lo (lo + n) st0 st'∧gallopOf st'=gallopOf st∧SegS key (arrOf st') lo (lo + min k n))
  (Q:=fun c st'=>c=(none,())∧SB a₀ κ lo (lo + n) st0 st'∧gallopOf st'=gallopOf st∧SegS key (arrOf st') lo (lo + n)) ?step ?fin ?init) ?post)
 case post=>
  intro c st' hR2
  refine byC fun hX=>?_;revert hR2;refine rAAA fun hO0 hB' hg hs'=>?_;obtain rfl:=hO0;refine hX ?_;clear hX
  exact wpS_pure (h st' hB' hs' hg)
 case init=>
  refine ⟨rfl,hB,rfl,fun i j hi hij hj=>?_⟩
  by_cases h1:ok=0
  ·have:i=j:=by exact ln7 [(.le .v2 .v0),(.le .v0 .v1),(.lt .v1 (.a .v2 .v3)),(.eq .v4 .k0),(.mi .v3 .v5 .v6),(.mx .v5 .v4 .k1)] (.eq .v0 .v1) (.s (.s (.s (.d 111010001001) (.d 10000100001)) (.s (.d 111010011001) (.d 10000100001))) (.s (.s (.d 1101) (.d 1101)) (.s (.d 1101) (.d 1101)))) rfl hi hij hj h1 (min_ax _ _) (max_ax _ _)
   subst this;exact le3_refl _
  ·exact hs i j hi hij (by exact ln6 [(.lt .v0 (.a .v1 .v3)),(.no (.eq .v2 .k0)),(.mi .v3 .v4 .v5),(.mx .v4 .v2 .k1)] (.lt .v0 (.a .v1 .v2)) (.s (.s (.s (.d 1001) (.d 10010001)) (.s (.d 1001) (.d 10010001))) (.s (.s (.d 111101001) (.d 111001001)) (.s (.d 111111001) (.d 111011001)))) rfl hj h1 (min_ax _ _) (max_ax _ _))
 case fin=>
  intro c st' hR2
  revert hR2;refine rAAA fun hc hB' hg hs'=>?_
  refine ⟨hc,hB',hg,?_⟩
  rwa [show min (max (max ok 1) n) n=n by exact ln4 [(.mi .v0 .v2 .v1),(.mx .v2 .v3 .v1)] (.eq .v0 .v1) (.s (.s (.s (.d 11001001) (.d 11001101)) (.s (.d 11001) (.d 11001))) (.s (.s (.d 1111) (.d 1111)) (.s (.d 1101) (.d 1101)))) rfl (min_ax _ _) (max_ax _ _)] at hs'
 case step=>
  intro k c st' hak hkn hR5
  refine byC fun hX=>?_;revert hR5;refine rAAA fun hO0 hB' hg hs'=>?_;obtain rfl:=hO0;refine hX ?_;clear hX
  rw [show min k n=k by exact ln3 [(.lt .v1 .v2),(.mi .v0 .v1 .v2)] (.eq .v0 .v1) (.s (.s (.d 110001) (.d 1011)) (.s (.d 11001) (.d 1011))) rfl hkn (min_ax _ _)] at hs'
  have hk:lo + k < a₀.size:=by exact ln4 [(.le (.a .v0 .v3) .v2),(.lt .v1 .v3)] (.lt (.a .v0 .v1) .v2) (.d 1111) rfl hn hkn
  refine wpS_bind (wpS_mono (wpS_forRange (I := fun x c st'' => st'' = st' ∧ ∃ l r, c = (none, l, r) ∧ l ≤ r ∧ r ≤ k ∧ r - l ≤ k - x ∧
    (∀i,i < l→T3.le (KS key (arrOf st') (lo + i)) (KS key (arrOf st') (lo + k))=true)∧(∀i,r≤i→i < k→T3.le (KS key (arrOf st') (lo + k)) (KS key (arrOf st') (lo + i))=true))
   (Q:=fun c st''=>st''=st'∧∃l r,c=(none,l,r)∧l≤k∧
    (∀i,i < l→T3.le (KS key (arrOf st') (lo + i)) (KS key (arrOf st') (lo + k))=true)∧(∀i,l≤i→i < k→T3.le (KS key (arrOf st') (lo + k)) (KS key (arrOf st') (lo + i))=true)) ?istep ?ifin ?iinit) ?ipost)
  case iinit=>exact ⟨rfl,0,k,rfl,by exact ln1 [] (.le .k0 .v0) (.d 11) rfl,by exact ln1 [] (.le .v0 .v0) (.d 11) rfl,by exact ln1 [] (.le .v0 .v0) (.d 11) rfl,fun i hi=>by lia,fun i h1 h2=>by lia⟩
  case ifin=>
   intro c st'' hR2
   refine byC fun hX=>?_;revert hR2;refine rAEEAAAAA fun hO0 l r hO3 hlr hrk hm hlo hhi=>?_;obtain rfl:=hO0;obtain rfl:=hO3;refine hX ?_;clear hX
   have:l=r:=by exact ln5 [(.le .v0 .v1),(.le .v2 .v3),(.sb .v3 .v4 .v4),(.sb .v2 .v1 .v0)] (.eq .v0 .v1) (.s (.s (.s (.d 1101010001) (.d 11000001)) (.s (.d 1101010001) (.d 11000001))) (.s (.s (.d 111) (.d 111)) (.s (.d 111) (.d 111)))) rfl hlr hm (sub_ax _ _) (sub_ax _ _)
   subst this
   exact ⟨rfl,l,l,rfl,hrk,hlo,hhi⟩
  case istep=>
   intro x c st'' _ hxk hR5
   refine byC fun hX=>?_;revert hR5;refine rAEEAAAAA fun hO0 l r hO3 hlr hrk hm hlo hhi=>?_;obtain rfl:=hO0;obtain rfl:=hO3;refine hX ?_;clear hX
   dsimp only
   by_cases hge:l ≥ r
   ·rw [if_pos hge]
    have:l=r:=by exact ln2 [(.le .v0 .v1),(.le .v1 .v0)] (.eq .v0 .v1) (.s (.d 1101) (.d 111)) rfl hlr hge
    subst this
    exact wpS_pure ⟨rfl,l,l,rfl,hrk,hlo,hhi⟩
   ·rw [if_neg hge]
    refine wpS_bind (wpS_lt H hB' hk (by exact ln7 [(.le (.a .v0 .v3) .v2),(.lt .v4 .v3),(.le .v5 .v4),(.no (.le .v5 .v6)),(.an (.le (.m 2 .v1) (.a .v6 .v5)) (.lt (.a .v6 .v5) (.a (.m 2 .v1) (.k 2))))] (.lt (.a .v0 .v1) .v2) (.d 1222211) rfl hn hkn hrk hge (div_ax _ 2 (by decide))) ?_)
    cases hless:T3.le (KS key (arrOf st'') (lo + (l + r) / 2)) (KS key (arrOf st'') (lo + k))
    case false=>
     simp only [Bool.not_false,if_true]
     refine wpS_pure ⟨rfl,l,(l + r) / 2,rfl,by exact ln3 [(.no (.le .v2 .v0)),(.an (.le (.m 2 .v1) (.a .v0 .v2)) (.lt (.a .v0 .v2) (.a (.m 2 .v1) (.k 2))))] (.le .v0 .v1) (.d 12101) rfl hge (div_ax _ 2 (by decide)),by exact ln4 [(.le .v2 .v1),(.no (.le .v2 .v3)),(.an (.le (.m 2 .v0) (.a .v3 .v2)) (.lt (.a .v3 .v2) (.a (.m 2 .v0) (.k 2))))] (.le .v0 .v1) (.d 12211) rfl hrk hge (div_ax _ 2 (by decide)),by lia,hlo,fun i h1 h2=>?_⟩
     exact le3_trans (le3_total hless) (hs' _ _ (by exact ln2 [] (.le .v0 (.a .v0 .v1)) (.d 11) rfl) (by exact ln3 [(.le .v1 .v2)] (.le (.a .v0 .v1) (.a .v0 .v2)) (.d 111) rfl h1) (by exact ln3 [(.lt .v1 .v2)] (.lt (.a .v0 .v1) (.a .v0 .v2)) (.d 111) rfl h2))
    case true=>
     simp only [Bool.not_true,Bool.false_eq_true,if_false]
     refine wpS_pure ⟨rfl,(l + r) / 2 + 1,r,rfl,by exact ln3 [(.no (.le .v1 .v2)),(.an (.le (.m 2 .v0) (.a .v2 .v1)) (.lt (.a .v2 .v1) (.a (.m 2 .v0) (.k 2))))] (.le (.a .v0 .k1) .v1) (.d 1211) rfl hge (div_ax _ 2 (by decide)),by exact ln2 [(.le .v0 .v1)] (.le .v0 .v1) (.d 111) rfl hrk,by lia,fun i h1=>?_,hhi⟩
     exact le3_trans (hs' (lo + i) (lo + (l + r) / 2) (by exact ln2 [] (.le .v0 (.a .v0 .v1)) (.d 11) rfl) (by exact ln3 [(.lt .v1 (.a .v2 .k1))] (.le (.a .v0 .v1) (.a .v0 .v2)) (.d 111) rfl h1) (by exact ln5 [(.le .v3 .v2),(.no (.le .v3 .v4)),(.an (.le (.m 2 .v1) (.a .v4 .v3)) (.lt (.a .v4 .v3) (.a (.m 2 .v1) (.k 2))))] (.lt (.a .v0 .v1) (.a .v0 .v2)) (.d 12211) rfl hrk hge (div_ax _ 2 (by decide)))) hless
  case ipost=>
   intro c st'' hR2
   refine byC fun hX=>?_;revert hR2;refine rAEEAAA fun hO0 l r hO3 hlk hlo hhi=>?_;obtain rfl:=hO0;obtain rfl:=hO3;refine hX ?_;clear hX
   show wpS _ _ _ _ (do moveDown' (lo + k) (lo + l);pure (ForInStep.yield (none,()))) _ _
   rw [moveDown'_eq]
   refine wpS_bind (wpS_modify (wpS_pure ⟨rfl,hB'.bubble (by exact ln5 [(.sb .v1 (.a .v0 .v3) .v2),(.sb .v2 (.a .v0 .v3) (.a .v0 .v4))] (.le .v0 .v1) (.s (.s (.d 1100101) (.d 1100101)) (.s (.d 1110101) (.d 1110101))) rfl (sub_ax _ _) (sub_ax _ _)) (by exact ln4 [(.sb .v0 (.a .v1 .v2) (.a .v1 .v3))] (.le .v0 (.a .v1 .v2)) (.s (.d 1101) (.d 1101)) rfl (sub_ax _ _)) (by exact ln3 [(.lt .v1 .v2)] (.lt (.a .v0 .v1) (.a .v0 .v2)) (.d 111) rfl hkn) hn,hg,?_⟩))
   rw [show min (k + 1) n=k + 1 by exact ln3 [(.lt .v1 .v2),(.mi .v0 (.a .v1 .k1) .v2)] (.eq .v0 (.a .v1 .k1)) (.s (.s (.d 110001) (.d 111001)) (.s (.d 11001) (.d 11011))) rfl hkn (min_ax _ _)]
   have hks:lo + k < (arrOf st'').size:=by rw [hB'.size];exact hk
   have hlo':∀i,lo≤i→i < lo + l→T3.le (KS key (arrOf st'') i) (KS key (arrOf st'') (lo + k))=true:=fun i h1 h2=>by
    have:=hlo (i - lo) (by exact ln4 [(.le .v2 .v3),(.lt .v3 (.a .v2 .v1)),(.sb .v0 .v3 .v2)] (.lt .v0 .v1) (.s (.d 110101) (.d 111101)) rfl h1 h2 (sub_ax _ _));rwa [show lo + (i - lo)=i by exact ln3 [(.le .v0 .v2),(.sb .v1 .v2 .v0)] (.eq (.a .v0 .v1) .v2) (.s (.s (.d 110001) (.d 110101)) (.s (.d 11001) (.d 11101))) rfl h1 (sub_ax _ _)] at this
   have hhi':∀i,lo + l≤i→i < lo + k→T3.le (KS key (arrOf st'') (lo + k)) (KS key (arrOf st'') i)=true:=fun i h1 h2=>by
    have:=hhi (i - lo) (by exact ln4 [(.le (.a .v2 .v0) .v3),(.sb .v1 .v3 .v2)] (.le .v0 .v1) (.s (.d 111001) (.d 111101)) rfl h1 (sub_ax _ _)) (by exact ln5 [(.le (.a .v2 .v3) .v4),(.lt .v4 (.a .v2 .v1)),(.sb .v0 .v4 .v2)] (.lt .v0 .v1) (.s (.d 110101) (.d 111101)) rfl h1 h2 (sub_ax _ _));rwa [show lo + (i - lo)=i by exact ln4 [(.le (.a .v0 .v3) .v2),(.sb .v1 .v2 .v0)] (.eq (.a .v0 .v1) .v2) (.s (.s (.d 110001) (.d 110101)) (.s (.d 11001) (.d 11101))) rfl h1 (sub_ax _ _)] at this
   intro i j hi hij hj
   have hpq:lo + l≤lo + k:=Nat.add_le_add_left hlk lo
   have e:=fun x=>(KS_bubble (key:=key) hks (Nat.sub_le _ _) x).trans (bub_at hpq _ _ _)
   exact ((congr (congrArg T3.le (e i)) (e j)).trans (ins_srt (Nat.le_add_right lo l) hpq hs' hlo' hhi' hi hij (Nat.le_of_lt_succ hj)))
end
noncomputable def ascL (lo a nrem:Nat):StateT SortSt Sem AscSt :=
 forIn [a:nrem] ((none,a):AscSt) fun u_ r=>do
  let x ← ltAt' (lo + r.snd) (lo + r.snd - 1)
  match x with
  | some smaller=>if smaller=true then pure (ForInStep.done (none,r.snd)) else pure (ForInStep.yield (none,r.snd + 1))
  | _=>pure (ForInStep.done (some none,r.snd))
noncomputable def tailL (lo n nrem:Nat):StateT SortSt Sem (Option Nat):=do
 reverseSlice' lo (lo + n)
 let r ← ascL lo n nrem
 match r.fst with
 | some r=>pure r
 | none=>pure (some r.snd)
noncomputable def descL (lo n nrem:Nat):StateT SortSt Sem DescSt :=
 forIn [n:nrem] ((none,n,0):DescSt) fun u_ r=>do
  let x ← ltAt' (lo + r.snd.fst) (lo + r.snd.fst - 1)
  match x with
  | some smaller=>
   if smaller=true then
    if r.snd.snd > 0 then do
     reverseSlice' (lo + r.snd.fst - (r.snd.snd + 1)) (lo + r.snd.fst)
     pure (ForInStep.yield (none,r.snd.fst + 1,0))
    else pure (ForInStep.yield (none,r.snd.fst + 1,0))
   else do
    let x ← ltAt' (lo + r.snd.fst - 1) (lo + r.snd.fst)
    match x with
    | some larger=>
     if larger=true then pure (ForInStep.done (none,r.snd.fst,r.snd.snd))
     else pure (ForInStep.yield (none,r.snd.fst + 1,r.snd.snd + 1))
    | _=>pure (ForInStep.done (some none,r.snd.fst,r.snd.snd))
  | _=>pure (ForInStep.done (some none,r.snd.fst,r.snd.snd))
noncomputable def descP (lo n nrem:Nat):StateT SortSt Sem (Option Nat):=do
 liftM (rule "list.sort.descending-run")
 let r ← descL lo (n + 1) nrem
 match r.fst with
 | some r=>pure r
 | none=>
  if r.snd.snd > 0 then do
   reverseSlice' (lo + r.snd.fst - (r.snd.snd + 1)) (lo + r.snd.fst)
   tailL lo r.snd.fst nrem
  else tailL lo r.snd.fst nrem
theorem countL_eq (lo nrem : Nat) : countRun' lo nrem = (do
  let r ← ascL lo 1 nrem
  match r.fst with
  | some r=>pure r
  | none=>
   if (r.snd == nrem)=true then pure (some r.snd)
   else if r.snd > 1 then do
    let x ← ltAt' lo (lo + r.snd - 1)
    match x with
    | some rose => if rose = true then pure (some r.snd) else do
      reverseSlice' lo (lo + r.snd)
      descP lo r.snd nrem
    | _=>pure none
   else descP lo r.snd nrem):=by
 rw [countRun'_eq]
 refine congrArg (ascL lo 1 nrem >>= ·) (funext fun r=>?_)
 refine byC fun hX=>?_;obtain ⟨r,n⟩:=r;refine hX ?_;clear hX
 cases r with
 | some r=>rfl
 | none=>
  dsimp only
  have key : (do
    liftM (rule "list.sort.descending-run")
    let r ← descL lo (n + 1) nrem
    match r.fst with
    | some r=>pure r
    | none=>
     if r.snd.snd > 0 then do
      reverseSlice' (lo + r.snd.fst - (r.snd.snd + 1)) (lo + r.snd.fst)
      reverseSlice' lo (lo + r.snd.fst)
      let r3 ← ascL lo r.snd.fst nrem
      match r3.fst with
      | some r=>pure r
      | none=>pure (some r3.snd)
     else do
      reverseSlice' lo (lo + r.snd.fst)
      let r3 ← ascL lo r.snd.fst nrem
      match r3.fst with
      | some r=>pure r
      | none=>pure (some r3.snd):StateT SortSt Sem (Option Nat))=descP lo n nrem:=rfl
  split
  ·rfl
  ·split
   ·congr 1
    funext x
    cases x with
    | none=>rfl
    | some rose=>
     dsimp only
     split
     ·rfl
     ·congr 1
      funext _u
      rw [← key]
      unfold descL ascL
      congr 1;funext _u;congr 1;congr 1;funext s2;obtain ⟨r2,n2,q2⟩:=s2
      cases r2 with
      | some r2=>rfl
      | none=>
       dsimp only
       split
       ·congr 1;funext _v;congr 1;funext _w;congr 1;funext s3;obtain ⟨r3,n3⟩:=s3;cases r3 <;> rfl
       ·congr 1;funext _w;congr 1;funext s3;obtain ⟨r3,n3⟩:=s3;cases r3 <;> rfl
   ·rw [← key]
    unfold descL ascL
    congr 1;funext _u;congr 1;congr 1;funext s2;obtain ⟨r2,n2,q2⟩:=s2
    cases r2 with
    | some r2=>rfl
    | none=>
     dsimp only
     split
     ·congr 1;funext _v;congr 1;funext _w;congr 1;funext s3;obtain ⟨r3,n3⟩:=s3;cases r3 <;> rfl
     ·congr 1;funext _w;congr 1;funext s3;obtain ⟨r3,n3⟩:=s3;cases r3 <;> rfl
section
variable {prog:Program}{w:World}{A:Around}{E:Value→Shared→Prop}{s:Shared}{a₀:Array Keyed}{κ:SortKind}{key:Keyed→T3}
theorem SegS.snoc {xs:Array Keyed}{lo x:Nat} (hs:SegS key xs lo (lo + x)) (hx:1≤x) (h:T3.le (KS key xs (lo + x - 1)) (KS key xs (lo + x))=true):SegS key xs lo (lo + (x + 1)):=by
 intro i j hi hij hj
 by_cases hjx:j < lo + x
 ·exact hs i j hi hij hjx
 ·have hj':j=lo + x:=by exact ln3 [(.lt .v0 (.a .v1 (.a .v2 .k1))),(.no (.lt .v0 (.a .v1 .v2)))] (.eq .v0 (.a .v1 .v2)) (.s (.d 1101) (.d 111)) rfl hj hjx
  subst hj'
  by_cases hi':i=lo + x
  ·subst hi';exact le3_refl _
  ·exact le3_trans (hs i (lo + x - 1) hi (by exact ln4 [(.le .v0 (.a .v2 .v3)),(.no (.eq .v0 (.a .v2 .v3))),(.sb .v1 (.a .v2 .v3) .k1)] (.le .v0 .v1) (.s (.s (.d 1101001) (.d 1101101)) (.s (.d 1011) (.d 1011))) rfl hij hi' (sub_ax _ _)) (by exact ln3 [(.le .k1 .v2),(.sb .v0 (.a .v1 .v2) .k1)] (.lt .v0 (.a .v1 .v2)) (.s (.d 11001) (.d 11101)) rfl hx (sub_ax _ _))) h
theorem SegD.snoc {xs:Array Keyed}{lo x:Nat} (hs:SegD key xs lo (lo + x)) (hx:1≤x) (h:T3.le (KS key xs (lo + x)) (KS key xs (lo + x - 1))=true):SegD key xs lo (lo + (x + 1)):=by
 intro i j hi hij hj
 by_cases hjx:j < lo + x
 ·exact hs i j hi hij hjx
 ·have hj':j=lo + x:=by exact ln3 [(.lt .v0 (.a .v1 (.a .v2 .k1))),(.no (.lt .v0 (.a .v1 .v2)))] (.eq .v0 (.a .v1 .v2)) (.s (.d 1101) (.d 111)) rfl hj hjx
  subst hj'
  by_cases hi':i=lo + x
  ·subst hi';exact le3_refl _
  ·exact le3_trans h (hs i (lo + x - 1) hi (by exact ln4 [(.le .v0 (.a .v2 .v3)),(.no (.eq .v0 (.a .v2 .v3))),(.sb .v1 (.a .v2 .v3) .k1)] (.le .v0 .v1) (.s (.s (.d 1101001) (.d 1101101)) (.s (.d 1011) (.d 1011))) rfl hij hi' (sub_ax _ _)) (by exact ln3 [(.le .k1 .v2),(.sb .v0 (.a .v1 .v2) .k1)] (.lt .v0 (.a .v1 .v2)) (.s (.d 11001) (.d 11101)) rfl hx (sub_ax _ _)))
theorem wpS_ascL {lo hi : Nat} {st0 st : SortSt} {a nrem : Nat} {Q : AscSt → SortSt → Prop} (H : LtOK prog w A E s κ a₀ key) (hn : lo + nrem ≤ a₀.size) (ha : 1 ≤ a) (han : a ≤ nrem) (hB : SB a₀ κ lo hi st0 st) (hs : SegS key (arrOf st) lo (lo + a))
  (h:∀n,a≤n→n≤nrem→SegS key (arrOf st) lo (lo + n)→(n=nrem∨T3.le (KS key (arrOf st) (lo + n)) (KS key (arrOf st) (lo + n - 1))=true)→Q (none,n) st) :
  wpS (model prog w) A E s (ascL lo a nrem) Q st:=by
 unfold ascL
 refine wpS_forRange (I:=fun x c st'=>st'=st∧c=(none,x)∧SegS key (arrOf st) lo (lo + x)) ?step ?fin ⟨rfl,rfl,hs⟩
 case fin=>
  intro c st' hR2
  revert hR2;refine rAA fun hO0 hO1 hs'=>?_;refine eqS hO0 ?_;refine eqS hO1 ?_
  rw [show max a nrem=nrem by lia] at hs' ⊢
  exact h nrem han (Nat.le_refl _) hs' (.inl rfl)
 case step=>
  intro x c st' hax hxn hR5
  refine byC fun hX=>?_;revert hR5;refine rAA fun hO0 hO1 hs'=>?_;obtain rfl:=hO0;obtain rfl:=hO1;refine hX ?_;clear hX
  skip
  refine wpS_bind (wpS_lt H hB (by exact ln4 [(.le (.a .v0 .v3) .v2),(.lt .v1 .v3)] (.lt (.a .v0 .v1) .v2) (.d 1111) rfl hn hxn) (by exact ln5 [(.le (.a .v2 .v3) .v1),(.lt .v4 .v3),(.sb .v0 (.a .v2 .v4) .k1)] (.lt .v0 .v1) (.s (.d 111101) (.d 111101)) rfl hn hxn (sub_ax _ _)) ?_)
  cases hless:T3.le (KS key (arrOf st') (lo + x - 1)) (KS key (arrOf st') (lo + x))
  case false=>
   simp only [Bool.not_false,if_true]
   exact wpS_pure (h x hax (by exact ln2 [(.lt .v0 .v1)] (.le .v0 .v1) (.d 111) rfl hxn) hs' (.inr (le3_total hless)))
  case true=>
   simp only [Bool.not_true,Bool.false_eq_true,if_false]
   exact wpS_pure ⟨rfl,rfl,hs'.snoc (by exact ln2 [(.le .k1 .v1),(.le .v1 .v0)] (.le .k1 .v0) (.d 1111) rfl ha hax) hless⟩
theorem wpS_tailL {lo : Nat} {st0 st : SortSt} {n nrem : Nat} {Q : Option Nat → SortSt → Prop} (H : LtOK prog w A E s κ a₀ key) (hn : lo + nrem ≤ a₀.size) (h1 : 1 ≤ n) (hnn : n ≤ nrem) (hB : SB a₀ κ lo (lo + nrem) st0 st)
  (hs:SegD key (arrOf st) lo (lo + n)) (h:∀m st',SB a₀ κ lo (lo + nrem) st0 st'→n≤m→m≤nrem→SegS key (arrOf st') lo (lo + m)→Q (some m) st') :
  wpS (model prog w) A E s (tailL lo n nrem) Q st:=by
 unfold tailL
 have hsz:lo + n≤(arrOf st).size:=by rw [hB.size];exact ln4 [(.le (.a .v0 .v3) .v2),(.le .v1 .v3)] (.le (.a .v0 .v1) .v2) (.d 1111) rfl hn hnn
 refine wpS_bind (wpS_reverse ?_)
 have hB':=hB.mirror (i:=lo) (j:=lo + n) (Nat.le_refl _) (by exact ln3 [(.le .v1 .v2)] (.le (.a .v0 .v1) (.a .v0 .v2)) (.d 111) rfl hnn) hn
 refine wpS_bind (wpS_ascL H hn h1 hnn hB' ?_ fun m hm1 hm2 hsm u_=>wpS_pure (h m _ hB' hm1 hm2 hsm))
 intro i j hi hij hj
 show T3.le (KS key (mirror (arrOf st) lo (lo + n) ((lo + n - lo) / 2)) i) (KS key (mirror (arrOf st) lo (lo + n) ((lo + n - lo) / 2)) j)=true
 rw [KS_mirror hsz,KS_mirror hsz,if_pos (by exact ln4 [(.le .v0 .v1),(.le .v1 .v3),(.lt .v3 (.a .v0 .v2))] (.an (.le .v0 .v1) (.lt .v1 (.a .v0 .v2))) (.s (.d 111) (.d 11011)) rfl hi hij hj),if_pos (by exact ln4 [(.le .v0 .v3),(.le .v3 .v1),(.lt .v1 (.a .v0 .v2))] (.an (.le .v0 .v1) (.lt .v1 (.a .v0 .v2))) (.s (.d 1111) (.d 11001)) rfl hi hij hj)]
 exact hs _ _ (by exact ln5 [(.lt .v2 (.a .v0 .v3)),(.sb .v1 .v4 .v2),(.sb .v4 (.a .v0 (.a .v0 .v3)) .k1)] (.le .v0 .v1) (.s (.s (.d 111001001) (.d 111001101)) (.s (.d 111101001) (.d 111101101))) rfl hj (sub_ax _ _) (sub_ax _ _)) (by exact ln5 [(.le .v2 .v3),(.sb .v1 .v4 .v2),(.sb .v0 .v4 .v3)] (.le .v0 .v1) (.s (.s (.d 11100101) (.d 11010101)) (.s (.d 11110101) (.d 11000101))) rfl hij (sub_ax _ _) (sub_ax _ _)) (by exact ln6 [(.le .v1 .v3),(.lt .v4 (.a .v1 .v2)),(.sb .v0 .v5 .v3),(.sb .v5 (.a .v1 (.a .v1 .v2)) .k1)] (.lt .v0 (.a .v1 .v2)) (.s (.s (.d 111001001) (.d 111101001)) (.s (.d 12000201) (.d 110101))) rfl hi hj (sub_ax _ _) (sub_ax _ _))
noncomputable def Rise (key:Keyed→T3) (xs:Array Keyed) (n:Nat):Prop:=∀i,1≤i→i + 1 < n→T3.le (KS key xs i) (KS key xs (i - 1))=false
theorem wpS_descP2 {lo : Nat} {st : SortSt} {Q : Option Nat → SortSt → Prop} (H : LtOK prog w A E s κ a₀ key) (hn : lo + 2 ≤ a₀.size) (hB : SB a₀ κ lo (lo + 2) st st) (hs : SegD key (arrOf st) lo (lo + 2))
  (h:∀m st',SB a₀ κ lo (lo + 2) st st'→2≤m→m≤2→SegS key (arrOf st') lo (lo + m)→Q (some m) st'):wpS (model prog w) A E s (descP lo 1 2) Q st:=by
 unfold descP descL
 refine wpS_bind (wpS_lift (wpAny_rule ⟨rfl,?_⟩))
 refine wpS_bind (wpS_mono (wpS_forRange (I:=fun x c st'=>c=(none,2,0)∧st'=st) (Q:=fun c st'=>c=(none,2,0)∧st'=st) (fun x c st' h1 h2 u_=>absurd h2 (Nat.not_lt.mpr h1)) (fun c st' hh=>hh) ⟨rfl,rfl⟩) ?_)
 intro c st' hR2
 revert hR2;refine rA fun hO0 hO1=>?_;refine eqS hO0 ?_;refine eqS hO1 ?_
 exact wpS_tailL H hn (by decide) (Nat.le_refl _) hB hs h
theorem wpS_count {lo : Nat} {st : SortSt} {nrem : Nat} {Q : Option Nat → SortSt → Prop} (H : LtOK prog w A E s κ a₀ key) (hn : lo + nrem ≤ a₀.size) (h1 : 1 ≤ nrem) (hB : SB a₀ κ lo (lo + nrem) st st) (hr : nrem = 1 ∨ (lo = 0 ∧ Rise key (arrOf st) nrem))
  (h:∀m st',SB a₀ κ lo (lo + nrem) st st'→1≤m→m≤nrem→nrem≤m + 1→SegS key (arrOf st') lo (lo + m)→Q (some m) st') :
  wpS (model prog w) A E s (countRun' lo nrem) Q st:=by
 rw [countL_eq]
 refine wpS_bind (wpS_ascL H hn (Nat.le_refl 1) h1 hB (fun i j hi hij hj=>by have:i=j:=(by exact ln3 [(.le .v2 .v0),(.le .v0 .v1),(.lt .v1 (.a .v2 .k1))] (.eq .v0 .v1) (.s (.d 11101) (.d 1101)) rfl hi hij hj);subst this;exact le3_refl _) fun n hn1 hn2 hsn hor=>?_)
 skip
 by_cases hnn:n=nrem
 ·rw [if_pos (by simpa using hnn)]
  exact wpS_pure (h n st hB hn1 hn2 (by exact ln2 [(.eq .v1 .v0)] (.le .v0 (.a .v1 .k1)) (.d 1101) rfl hnn) hsn)
 ·rw [if_neg (by simpa using hnn)]
  have hlt:=hor.resolve_left hnn
  refine rA (fun e0 hR=>?_) (hr.resolve_left (fun e=>by exact ln2 [(.le .k1 .v0),(.le .v0 .v1),(.eq .v1 .k1),(.no (.eq .v0 .v1))] .ff (.s (.d 110101) (.d 101001)) rfl hn1 hn2 e hnn))
  subst e0
  simp only [Nat.zero_add] at hlt
  have hn3:n + 1=nrem:=by
   by_cases hc:n + 1 < nrem
   ·have:=hR n hn1 hc
    rw [this] at hlt;exact ft hlt
   ·exact ln2 [(.le .v0 .v1),(.no (.lt (.a .v0 .k1) .v1)),(.no (.eq .v0 .v1))] (.eq (.a .v0 .k1) .v1) (.s (.s (.d 1101) (.d 1101)) (.s (.d 11001) (.d 10101))) rfl hn2 hc hnn
  by_cases hgt:n > 1
  ·rw [if_pos hgt]
   refine wpS_bind (wpS_lt H hB (by exact ln2 [(.le .k1 .v1),(.le (.a .k0 .v1) .v0)] (.lt .k0 .v0) (.d 1111) rfl h1 hn) (by exact ln4 [(.le (.a .k0 .v2) .v1),(.eq (.a .v3 .k1) .v2),(.sb .v0 (.a .k0 .v3) .k1)] (.lt .v0 .v1) (.s (.d 1111001) (.d 1111001)) rfl hn hn3 (sub_ax _ _)) ?_)
   have hrose:T3.le (KS key (arrOf st) (0 + n - 1)) (KS key (arrOf st) 0)=false:=by
    cases e:T3.le (KS key (arrOf st) (0 + n - 1)) (KS key (arrOf st) 0) with
    | false=>rfl
    | true=>
     have e1:=hR (n - 1) (by exact ln2 [(.lt .k1 .v1),(.sb .v0 .v1 .k1)] (.le .k1 .v0) (.s (.d 111001) (.d 1011)) rfl hgt (sub_ax _ _)) (by exact ln3 [(.eq (.a .v2 .k1) .v1),(.lt .k1 .v2),(.sb .v0 .v2 .k1)] (.lt (.a .v0 .k1) .v1) (.s (.d 1110001) (.d 100011)) rfl hn3 hgt (sub_ax _ _))
     have e2:=hsn 0 (n - 1 - 1) (Nat.le_refl _) (Nat.zero_le _) (by exact ln3 [(.lt .k1 .v1),(.sb .v0 .v2 .k1),(.sb .v2 .v1 .k1)] (.lt .v0 (.a .k0 .v1)) (.s (.s (.d 11001001) (.d 1010001)) (.s (.d 11101) (.d 11101))) rfl hgt (sub_ax _ _) (sub_ax _ _))
     rw [Nat.zero_add] at e
     rw [le3_trans e e2] at e1;exact tf e1
   rw [hrose]
   simp only [Bool.not_false,if_true]
   exact wpS_pure (h n st hB hn1 hn2 (by exact ln2 [(.eq (.a .v1 .k1) .v0)] (.le .v0 (.a .v1 .k1)) (.d 1101) rfl hn3) hsn)
  ·rw [if_neg hgt]
   have e1:n=1:=by exact ln1 [(.le .k1 .v0),(.no (.lt .k1 .v0))] (.eq .v0 .k1) (.s (.d 111) (.d 1101)) rfl hn1 hgt
   subst e1
   subst hn3
   refine wpS_descP2 H hn hB (SegD.snoc (fun i j hi hij hj=>?_) (by exact lin [] (.le .k1 .k1) (.d 11) rfl [] []) (by simpa using hlt)) fun m st' g1 g2 g3 g4=>h m st' g1 (by exact ln1 [(.le (.k 2) .v0)] (.le .k1 .v0) (.d 111) rfl g2) g3 (by exact ln1 [(.le (.k 2) .v0)] (.le (.a .k1 .k1) (.a .v0 .k1)) (.d 111) rfl g2) g4
   have:i=j:=by exact ln2 [(.le .v0 .v1),(.lt .v1 (.a .k0 .k1))] (.eq .v0 .v1) (.s (.d 1101) (.d 111)) rfl hij hj
   subst this;exact le3_refl _
end
noncomputable def gallop':Bool→Keyed→Array Keyed→Nat→Nat→Nat→StateT SortSt Sem (Option Nat):=sortPriv% PySem.Builtin.gallop
theorem gallop'_eq (left:Bool) (key:Keyed) (arr:Array Keyed) (base n hint:Nat):gallop' left key arr base n hint=(do
 let beyond (i:Nat):StateT SortSt Sem (Option Bool):=do
  let x ← elem' arr (base + i)
  if left then lt' x key else return (← lt' key x).map (!·)
 let mut lastofs:=0
 let mut ofs:=1
 let mut lo:=0
 let mut hi:=0
 let some right ← beyond hint | return none
 if right then
  let maxofs:=n - hint
  for _ in [0:n] do
   if ofs ≥ maxofs then break
   let some more ← beyond (hint + ofs) | return none
   if !more then break
   lastofs:=ofs
   ofs:=2 * ofs + 1
  lo:=hint + lastofs + 1
  hi:=hint + min ofs maxofs
 else
  let maxofs:=hint + 1
  for _ in [0:n] do
   if ofs ≥ maxofs then break
   let some found ← beyond (hint - ofs) | return none
   if found then break
   lastofs:=ofs
   ofs:=2 * ofs + 1
  lo:=hint + 1 - min ofs maxofs
  hi:=hint - lastofs
 for _ in [0:n] do
  if lo ≥ hi then break
  let m:=lo + (hi - lo) / 2
  let some more ← beyond m | return none
  if more then lo:=m + 1 else hi:=m
 return some hi):=rfl
noncomputable def gallopB (beyond:Nat→StateT SortSt Sem (Option Bool)) (n hint:Nat):StateT SortSt Sem (Option Nat):=do
 let mut lastofs:=0
 let mut ofs:=1
 let mut lo:=0
 let mut hi:=0
 let some right ← beyond hint | return none
 if right then
  let maxofs:=n - hint
  for _ in [0:n] do
   if ofs ≥ maxofs then break
   let some more ← beyond (hint + ofs) | return none
   if !more then break
   lastofs:=ofs
   ofs:=2 * ofs + 1
  lo:=hint + lastofs + 1
  hi:=hint + min ofs maxofs
 else
  let maxofs:=hint + 1
  for _ in [0:n] do
   if ofs ≥ maxofs then break
   let some found ← beyond (hint - ofs) | return none
   if found then break
   lastofs:=ofs
   ofs:=2 * ofs + 1
  lo:=hint + 1 - min ofs maxofs
  hi:=hint - lastofs
 for _ in [0:n] do
  if lo ≥ hi then break
  let m:=lo + (hi - lo) / 2
  let some more ← beyond m | return none
  if more then lo:=m + 1 else hi:=m
 return some hi
noncomputable def bisectB (beyond:Nat→StateT SortSt Sem (Option Bool)) (n lo hi:Nat):StateT SortSt Sem (Option Nat):=do
 let mut lo:=lo
 let mut hi:=hi
 for _ in [0:n] do
  if lo ≥ hi then break
  let m:=lo + (hi - lo) / 2
  let some more ← beyond m | return none
  if more then lo:=m + 1 else hi:=m
 return some hi
section
variable {prog:Program}{w:World}{A:Around}{E:Value→Shared→Prop}{s:Shared}{a₀:Array Keyed}{κ:SortKind}{key:Keyed→T3}
theorem wpS_bisect {beyond : Nat → StateT SortSt Sem (Option Bool)} {n lo hi : Nat} {P : Nat → Bool} {st : SortSt} {Q : Option Nat → SortSt → Prop} (hb : ∀ i, i < n → ∀ (Q : Option Bool → SortSt → Prop), Q (some (P i)) st → wpS (model prog w) A E s (beyond i) Q st)
  (hm:∀i j,i≤j→j < n→P j=true→P i=true) (h1:lo≤hi) (h2:hi≤n) (hT:∀i,i < lo→P i=true) (hF:∀i,hi≤i→i < n→P i=false)
  (h:∀k,k≤n→(∀i,i < k→P i=true)→(∀i,k≤i→i < n→P i=false)→Q (some k) st):wpS (model prog w) A E s (bisectB beyond n lo hi) Q st:=by
 unfold bisectB
 refine wpS_bind (wpS_mono (wpS_forRange (I:=fun x c st'=>st'=st∧∃l r,c=(none,l,r)∧l≤r∧r≤n∧r - l≤n - x∧(∀i,i < l→P i=true)∧(∀i,r≤i→i < n→P i=false))
  (Q:=fun c st'=>st'=st∧∃k,c=(none,k,k)∧k≤n∧(∀i,i < k→P i=true)∧(∀i,k≤i→i < n→P i=false)) ?step ?fin ⟨rfl,lo,hi,rfl,h1,h2,by exact ln4 [(.le .v2 .v1),(.sb .v0 .v2 .v3)] (.le .v0 .v1) (.s (.d 11101) (.d 11101)) rfl h2 (sub_ax _ _),hT,hF⟩) ?post)
 case post=>
  intro c st' hR2
  revert hR2;refine rAEAAA fun hO0 k hO2 hk g1 g2=>?_;refine eqS hO0 ?_;refine eqS hO2 ?_
  exact wpS_pure (h k hk g1 g2)
 case fin=>
  intro c st' hR2
  revert hR2;refine rAEEAAAAA fun hO0 l r hO3 g1 g2 g3 g4 g5=>?_;refine eqS hO0 ?_;refine eqS hO3 ?_
  have:l=r:=by exact ln5 [(.le .v0 .v1),(.le .v2 .v3),(.sb .v3 .v4 .v4),(.sb .v2 .v1 .v0)] (.eq .v0 .v1) (.s (.s (.s (.d 1101010001) (.d 11000001)) (.s (.d 1101010001) (.d 11000001))) (.s (.s (.d 111) (.d 111)) (.s (.d 111) (.d 111)))) rfl g1 g3 (sub_ax _ _) (sub_ax _ _)
  subst this
  exact ⟨rfl,l,rfl,g2,g4,g5⟩
 case step=>
  intro x c st' _ hx hR5
  revert hR5;refine rAEEAAAAA fun hO0 l r hO3 g1 g2 g3 g4 g5=>?_;refine eqS hO0 ?_;refine eqS hO3 ?_
  dsimp only
  by_cases hge:l ≥ r
  ·rw [if_pos hge]
   have:l=r:=by exact ln2 [(.le .v0 .v1),(.le .v1 .v0)] (.eq .v0 .v1) (.s (.d 1101) (.d 111)) rfl g1 hge
   subst this
   exact wpS_pure ⟨rfl,l,rfl,g2,g4,g5⟩
  ·rw [if_neg hge]
   refine wpS_bind (hb _ (by exact ln5 [(.le .v3 .v2),(.no (.le .v3 .v0)),(.an (.le (.m 2 .v1) .v4) (.lt .v4 (.a (.m 2 .v1) (.k 2)))),(.sb .v4 .v3 .v0)] (.lt (.a .v0 .v1) .v2) (.s (.d 12211001) (.d 1001001)) rfl g2 hge (div_ax _ 2 (by decide)) (sub_ax _ _)) _ ?_)
   cases hp:P (l + (r - l) / 2) with
   | true=>
    simp only [if_true]
    exact wpS_pure ⟨rfl,_,r,rfl,by exact ln4 [(.no (.le .v2 .v0)),(.an (.le (.m 2 .v1) .v3) (.lt .v3 (.a (.m 2 .v1) (.k 2)))),(.sb .v3 .v2 .v0)] (.le (.a (.a .v0 .v1) .k1) .v2) (.s (.d 1211001) (.d 101001)) rfl hge (div_ax _ 2 (by decide)) (sub_ax _ _),g2,by omega,fun i hi=>hm i _ (by exact ln3 [(.lt .v0 (.a (.a .v1 .v2) .k1))] (.le .v0 (.a .v1 .v2)) (.d 111) rfl hi) (by exact ln5 [(.le .v3 .v2),(.no (.le .v3 .v0)),(.an (.le (.m 2 .v1) .v4) (.lt .v4 (.a (.m 2 .v1) (.k 2)))),(.sb .v4 .v3 .v0)] (.lt (.a .v0 .v1) .v2) (.s (.d 12211001) (.d 1001001)) rfl g2 hge (div_ax _ 2 (by decide)) (sub_ax _ _)) hp,g5⟩
   | false=>
    simp only [Bool.false_eq_true,if_false]
    refine wpS_pure ⟨rfl,l,_,rfl,by exact ln2 [] (.le .v0 (.a .v0 .v1)) (.d 11) rfl,by exact ln5 [(.le .v3 .v2),(.no (.le .v3 .v0)),(.an (.le (.m 2 .v1) .v4) (.lt .v4 (.a (.m 2 .v1) (.k 2)))),(.sb .v4 .v3 .v0)] (.le (.a .v0 .v1) .v2) (.s (.d 12211001) (.d 1001001)) rfl g2 hge (div_ax _ 2 (by decide)) (sub_ax _ _),by exact lin [(.le .v2 .v3),(.an (.le (.m 2 .v4) .v2) (.lt .v2 (.a (.m 2 .v4) (.k 2)))),(.sb .v3 .v6 .v5),(.sb .v1 .v6 (.a .v5 .k1)),(.sb .v0 (.a .v7 .v4) .v7)] (.le .v0 .v1) (.s (.s (.s (.d 1211001010202) (.d 1100000010101)) (.s (.d 1211001010202) (.d 1100000000101))) (.s (.s (.d 100001001) (.d 100001001)) (.s (.d 1211001000202) (.d 1100000000101)))) rfl [_,_,_,_,_,_,_,_] [] g3 (div_ax _ 2 (by decide)) (sub_ax _ _) (sub_ax _ _) (sub_ax _ _),g4,fun i h1 h2=>?_⟩
    cases hq:P i with
    | false=>rfl
    | true=>rw [hm _ i h1 h2 hq] at hp;exact tf hp
theorem wpS_gallopB {beyond : Nat → StateT SortSt Sem (Option Bool)} {n hint : Nat} {P : Nat → Bool} {st : SortSt} {Q : Option Nat → SortSt → Prop} (hb : ∀ i, i < n → ∀ (Q : Option Bool → SortSt → Prop), Q (some (P i)) st → wpS (model prog w) A E s (beyond i) Q st)
  (hm:∀i j,i≤j→j < n→P j=true→P i=true) (hh:hint < n) (h:∀k,k≤n→(∀i,i < k→P i=true)→(∀i,k≤i→i < n→P i=false)→Q (some k) st):wpS (model prog w) A E s (gallopB beyond n hint) Q st:=by
 have hmF:∀i j,i≤j→j < n→P i=false→P j=false:=fun i j h1 h2 h3=>by
  cases hq:P j with
  | false=>rfl
  | true=>rw [hm i j h1 h2 hq] at h3;exact tf h3
 unfold gallopB
 refine wpS_bind (hb hint hh _ ?_)
 skip
 cases hr:P hint with
 | true=>
  refine wpS_ifp rfl ?_
  refine wpS_bind (wpS_mono (wpS_forRange (I:=fun x c st'=>st'=st∧∃l o,c=(none,l,o)∧l < o∧x + 1≤o∧hint + l < n∧P (hint + l)=true)
   (Q:=fun c st'=>st'=st∧∃l o,c=(none,l,o)∧l < o∧hint + l < n∧P (hint + l)=true∧(o ≥ n - hint∨(hint + o < n∧P (hint + o)=false))) ?step ?fin ⟨rfl,0,1,rfl,by exact lin [] (.lt .k0 .k1) (.d 11) rfl [] [],by exact lin [] (.le (.a .k0 .k1) .k1) (.d 11) rfl [] [],by exact ln2 [(.lt .v0 .v1)] (.lt (.a .v0 .k0) .v1) (.d 111) rfl hh,hr⟩) ?post)
  case fin=>
   intro c st' hR2
   revert hR2;refine rAEEAAAA fun hO0 l o hO3 g1 g2 g3 g4=>?_;refine eqS hO0 ?_;refine eqS hO3 ?_
   exact ⟨rfl,l,o,rfl,g1,g3,g4,.inl (by exact ln4 [(.le (.a .v2 .k1) .v1),(.sb .v0 .v2 .v3)] (.le .v0 .v1) (.s (.d 11101) (.d 11101)) rfl g2 (sub_ax _ _))⟩
  case step=>
   intro x c st' _ hx hR5
   revert hR5;refine rAEEAAAA fun hO0 l o hO3 g1 g2 g3 g4=>?_;refine eqS hO0 ?_;refine eqS hO3 ?_
   dsimp only
   by_cases hge:o ≥ n - hint
   ·rw [if_pos hge];exact wpS_pure ⟨rfl,l,o,rfl,g1,g3,g4,.inl hge⟩
   ·rw [if_neg hge]
    refine wpS_bind (hb _ (by exact ln4 [(.no (.le .v3 .v1)),(.sb .v3 .v2 .v0)] (.lt (.a .v0 .v1) .v2) (.s (.d 11101) (.d 10101)) rfl hge (sub_ax _ _)) _ ?_)
    cases hp:P (hint + o) with
    | true=>
     simp only [Bool.not_true,Bool.false_eq_true,if_false]
     exact wpS_pure ⟨rfl,o,2 * o + 1,rfl,by exact ln1 [] (.lt .v0 (.a (.m 2 .v0) .k1)) (.d 11) rfl,by exact ln2 [(.le (.a .v0 .k1) .v1)] (.le (.a (.a .v0 .k1) .k1) (.a (.m 2 .v1) .k1)) (.d 112) rfl g2,by exact ln4 [(.no (.le .v3 .v1)),(.sb .v3 .v2 .v0)] (.lt (.a .v0 .v1) .v2) (.s (.d 11101) (.d 10101)) rfl hge (sub_ax _ _),hp⟩
    | false=>
     simp only [Bool.not_false,if_true]
     exact wpS_pure ⟨rfl,l,o,rfl,g1,g3,g4,.inr ⟨by exact ln4 [(.no (.le .v3 .v1)),(.sb .v3 .v2 .v0)] (.lt (.a .v0 .v1) .v2) (.s (.d 11101) (.d 10101)) rfl hge (sub_ax _ _),hp⟩⟩
  case post=>
   intro c st' hR2
   refine byC fun hX=>?_;revert hR2;refine rAEEAAAA fun hO0 l o hO3 g1 g2 g3 g4=>?_;obtain rfl:=hO0;obtain rfl:=hO3;refine hX ?_;clear hX
   show wpS _ _ _ _ (bisectB beyond n (hint + l + 1) (hint + min o (n - hint))) Q st'
   refine wpS_bisect hb hm (by exact ln6 [(.lt .v1 .v3),(.lt (.a .v0 .v1) .v4),(.mi .v2 .v3 .v5),(.sb .v5 .v4 .v0)] (.le (.a (.a .v0 .v1) .k1) (.a .v0 .v2)) (.s (.s (.d 1110001) (.d 1110001)) (.s (.d 1101001001) (.d 1101001101))) rfl g1 g2 (min_ax _ _) (sub_ax _ _)) (by exact ln5 [(.lt .v0 .v2),(.mi .v1 .v3 .v4),(.sb .v4 .v2 .v0)] (.le (.a .v0 .v1) .v2) (.s (.s (.d 11011001) (.d 1010001)) (.s (.d 11001001) (.d 1010001))) rfl hh (min_ax _ _) (sub_ax _ _)) (fun i hi=>hm i _ (by exact ln3 [(.lt .v0 (.a (.a .v1 .v2) .k1))] (.le .v0 (.a .v1 .v2)) (.d 111) rfl hi) g2 g3) (fun i h1 h2=>?_) h
   rcases g4 with g4 | ⟨g4,g5⟩
   ·omega
   ·exact hmF _ i (by exact ln6 [(.le (.a .v0 .v3) .v2),(.lt (.a .v0 .v1) .v4),(.mi .v3 .v1 .v5),(.sb .v5 .v4 .v0)] (.le (.a .v0 .v1) .v2) (.s (.s (.d 1110001) (.d 1110001)) (.s (.d 1111001001) (.d 1111001101))) rfl h1 g4 (min_ax _ _) (sub_ax _ _)) h2 g5
 | false=>
  refine wpS_ifn (fun q=>ft q) ?_
  refine wpS_bind (wpS_mono (wpS_forRange (I:=fun x c st'=>st'=st∧∃l o,c=(none,l,o)∧l < o∧x + 1≤o∧l≤hint∧P (hint - l)=false)
   (Q:=fun c st'=>st'=st∧∃l o,c=(none,l,o)∧l < o∧l≤hint∧P (hint - l)=false∧(o ≥ hint + 1∨(o≤hint∧P (hint - o)=true))) ?step ?fin ⟨rfl,0,1,rfl,by exact lin [] (.lt .k0 .k1) (.d 11) rfl [] [],by exact lin [] (.le (.a .k0 .k1) .k1) (.d 11) rfl [] [],by exact ln1 [] (.le .k0 .v0) (.d 11) rfl,hr⟩) ?post)
  case fin=>
   intro c st' hR2
   revert hR2;refine rAEEAAAA fun hO0 l o hO3 g1 g2 g3 g4=>?_;refine eqS hO0 ?_;refine eqS hO3 ?_
   exact ⟨rfl,l,o,rfl,g1,g3,g4,.inl (by exact ln3 [(.lt .v0 .v2),(.le (.a .v2 .k1) .v1)] (.le (.a .v0 .k1) .v1) (.d 1111) rfl hh g2)⟩
  case step=>
   intro x c st' _ hx hR5
   revert hR5;refine rAEEAAAA fun hO0 l o hO3 g1 g2 g3 g4=>?_;refine eqS hO0 ?_;refine eqS hO3 ?_
   skip
   by_cases hge:o ≥ hint + 1
   ·rw [if_pos hge];exact wpS_pure ⟨rfl,l,o,rfl,g1,g3,g4,.inl hge⟩
   ·rw [if_neg hge]
    refine wpS_bind (hb _ (by exact ln4 [(.lt .v2 .v1),(.sb .v0 .v2 .v3)] (.lt .v0 .v1) (.s (.d 11101) (.d 11101)) rfl hh (sub_ax _ _)) _ ?_)
    cases hp:P (hint - o) with
    | true=>
     simp only [if_true]
     exact wpS_pure ⟨rfl,l,o,rfl,g1,g3,g4,.inr ⟨by exact ln2 [(.no (.le (.a .v1 .k1) .v0))] (.le .v0 .v1) (.d 111) rfl hge,hp⟩⟩
    | false=>
     simp only [Bool.false_eq_true,if_false]
     exact wpS_pure ⟨rfl,o,2 * o + 1,rfl,by exact ln1 [] (.lt .v0 (.a (.m 2 .v0) .k1)) (.d 11) rfl,by exact ln2 [(.le (.a .v0 .k1) .v1)] (.le (.a (.a .v0 .k1) .k1) (.a (.m 2 .v1) .k1)) (.d 112) rfl g2,by exact ln2 [(.no (.le (.a .v1 .k1) .v0))] (.le .v0 .v1) (.d 111) rfl hge,hp⟩
  case post=>
   intro c st' hR2
   refine byC fun hX=>?_;revert hR2;refine rAEEAAAA fun hO0 l o hO3 g1 g2 g3 g4=>?_;obtain rfl:=hO0;obtain rfl:=hO3;refine hX ?_;clear hX
   show wpS _ _ _ _ (bisectB beyond n (hint + 1 - min o (hint + 1)) (hint - l)) Q st'
   refine wpS_bisect hb hm (by exact ln6 [(.lt .v2 .v3),(.sb .v1 .v4 .v2),(.sb .v0 (.a .v4 .k1) .v5),(.mi .v5 .v3 (.a .v4 .k1))] (.le .v0 .v1) (.s (.s (.s (.d 111001010001) (.d 110101010001)) (.s (.d 11010101) (.d 11010101))) (.s (.s (.d 111101010001) (.d 110001010001)) (.s (.d 11000101) (.d 11000101)))) rfl g1 (sub_ax _ _) (sub_ax _ _) (min_ax _ _)) (by exact ln4 [(.lt .v2 .v1),(.sb .v0 .v2 .v3)] (.le .v0 .v1) (.s (.d 11101) (.d 11101)) rfl hh (sub_ax _ _)) (fun i hi=>?_) (fun i h1 h2=>hmF _ i h1 h2 g3) h
   rcases g4 with g4 | ⟨g4,g5⟩
   ·omega
   ·exact hm i _ (by exact ln6 [(.lt .v0 .v2),(.sb .v2 (.a .v4 .k1) .v3),(.mi .v3 .v5 (.a .v4 .k1)),(.sb .v1 .v4 .v5)] (.le .v0 .v1) (.s (.s (.s (.d 111010001001) (.d 111010001101)) (.s (.d 1000001001) (.d 111010001001))) (.s (.s (.d 1001000101) (.d 111010000001)) (.s (.d 1000001001) (.d 111010000001)))) rfl hi (sub_ax _ _) (min_ax _ _) (sub_ax _ _)) (by exact ln4 [(.lt .v2 .v1),(.sb .v0 .v2 .v3)] (.lt .v0 .v1) (.s (.d 11101) (.d 11101)) rfl hh (sub_ax _ _)) g5
theorem wpS_gallop {left : Bool} {x : Keyed} {arr : Array Keyed} {base n hint : Nat} {st : SortSt} {Q : Option Nat → SortSt → Prop} (H : LtOK prog w A E s κ a₀ key) (hk : kindOf st = κ) (hx : x ∈ a₀.toList) (ha : ∀ i (hi : i < arr.size), arr[i] ∈ a₀.toList) (hn : base + n ≤ arr.size) (hs : SegS key arr base (base + n)) (hh : hint < n)
  (h:∀k,k≤n→(∀i,i < k→(if left then !T3.le (key x) (KS key arr (base + i)) else T3.le (KS key arr (base + i)) (key x))=true)→(∀i,k≤i→i < n→(if left then !T3.le (key x) (KS key arr (base + i)) else T3.le (KS key arr (base + i)) (key x))=false)→Q (some k) st) :
  wpS (model prog w) A E s (gallop' left x arr base n hint) Q st:=by
 rw [gallop'_eq]
 show wpS _ _ _ _ (gallopB (fun i=>do
  let y ← elem' arr (base + i)
  if left then lt' y x else return (← lt' x y).map (!·)) n hint) Q st
 refine wpS_gallopB (P:=fun i=>if left then !T3.le (key x) (KS key arr (base + i)) else T3.le (KS key arr (base + i)) (key x)) (fun i hi Q' hq=>?_) (fun i j hij hj hp=>?_) hh h
 ·have hi':base + i < arr.size:=by exact ln4 [(.le (.a .v0 .v3) .v2),(.lt .v1 .v3)] (.lt (.a .v0 .v1) .v2) (.d 1111) rfl hn hi
  refine wpS_bind (wpS_elem hi' ?_)
  rw [KS_get hi'] at hq
  cases left with
  | true=>
   simp only [if_true] at hq ⊢
   exact H _ _ (ha _ hi') hx st Q' hk hq
  | false=>
   simp only [Bool.false_eq_true,if_false] at hq ⊢
   refine wpS_bind (H _ _ hx (ha _ hi') st _ hk ?_)
   refine wpS_pure ?_
   simpa using hq
 ·have hle:=hs (base + i) (base + j) (by exact ln2 [] (.le .v0 (.a .v0 .v1)) (.d 11) rfl) (by exact ln3 [(.le .v1 .v2)] (.le (.a .v0 .v1) (.a .v0 .v2)) (.d 111) rfl hij) (by exact ln3 [(.lt .v1 .v2)] (.lt (.a .v0 .v1) (.a .v0 .v2)) (.d 111) rfl hj)
  cases left with
  | true=>
   simp only [if_true,Bool.not_eq_true'] at hp ⊢
   cases hq:T3.le (key x) (KS key arr (base + i)) with
   | false=>rfl
   | true=>rw [le3_trans hq hle] at hp;exact tf hp
  | false=>
   simp only [Bool.false_eq_true,if_false] at hp ⊢
   exact le3_trans hle hp
end
noncomputable def mergeLo':Array Keyed→Array Keyed→StateT SortSt Sem (Array Keyed):=sortPriv% PySem.Builtin.mergeLo
noncomputable def mergeHi':Array Keyed→Array Keyed→StateT SortSt Sem (Array Keyed):=sortPriv% PySem.Builtin.mergeHi
theorem mergeLo_one (a b : Array Keyed) : ∃ rest : Keyed → StateT SortSt Sem (Array Keyed), mergeLo' a b = (do
  liftM (rule "list.sort.merge-lo")
  let x ← elem' b 0
  if (1 == b.size)=true then pure (#[x]++a.extract 0 a.size++b.extract 1 b.size) else rest x):=⟨_,rfl⟩
theorem mergeHi_one (a b : Array Keyed) : ∃ rest : Keyed → StateT SortSt Sem (Array Keyed), mergeHi' a b = (do
  liftM (rule "list.sort.merge-hi")
  let x ← elem' a (a.size - 1)
  if (a.size - 1 == 0)=true then pure (a.extract 0 (a.size - 1)++b.extract 0 b.size++#[x].reverse)
  else if (b.size == 1)=true then pure (b.extract 0 b.size++a.extract 0 (a.size - 1)++#[x].reverse) else rest x):=⟨_,rfl⟩
noncomputable def Srt (key:Keyed→T3) (l:List Keyed):Prop:=l.Pairwise fun x y=>T3.le (key x) (key y)=true
section
variable {key:Keyed→T3}
theorem srt_seg {a:Array Keyed}:SegS key a 0 a.size↔Srt key a.toList:=by
 unfold Srt
 rw [List.pairwise_iff_getElem]
 constructor
 ·intro h i j hi hj hij
  have hi':i < a.size:=by simpa using hi
  have hj':j < a.size:=by simpa using hj
  have:=h i j (Nat.zero_le _) (Nat.le_of_lt hij) hj'
  rw [KS_get hi',KS_get hj'] at this
  simpa using this
 ·intro h i j _ hij hj
  by_cases he:i=j
  ·subst he;exact le3_refl _
  ·have:=h i j (by simp;exact ln3 [(.le .v0 .v2),(.lt .v2 .v1)] (.lt .v0 .v1) (.d 1111) rfl hij hj) (by simpa using hj) (by exact ln2 [(.le .v0 .v1),(.no (.eq .v0 .v1))] (.lt .v0 .v1) (.s (.d 1101) (.d 1011)) rfl hij he)
   rw [KS_get (by lia),KS_get hj]
   simpa using this
end
structure Same (st0 st:SortSt):Prop where
 kind:kindOf st=kindOf st0
 arr:arrOf st=arrOf st0
 pend:pendingOf st=pendingOf st0
 ok:failedOf st=failedOf st0
theorem Same.refl (st:SortSt):Same st st:=⟨rfl,rfl,rfl,rfl⟩
section
variable {prog:Program}{w:World}{A:Around}{E:Value→Shared→Prop}{s:Shared}{a₀:Array Keyed}{κ:SortKind}{key:Keyed→T3}
structure Two (a₀:Array Keyed) (key:Keyed→T3) (a b:Array Keyed):Prop where
 ina:∀i (hi:i < a.size),a[i]∈a₀.toList
 inb:∀i (hi:i < b.size),b[i]∈a₀.toList
 sa:Srt key a.toList
 sb:Srt key b.toList
 pa:1≤a.size
 pb:1≤b.size
 first:∀i (hi:i < a.size) (h0:0 < b.size),T3.le (key b[0]) (key a[i])=true
 last:∀j (hj:j < b.size) (h0:a.size - 1 < a.size),T3.le (key b[j]) (key a[a.size - 1])=true
noncomputable def Res (key:Keyed→T3) (a b r:Array Keyed):Prop:=r.toList.Perm (a.toList++b.toList)∧Srt key r.toList
theorem mem_ext {a:Array Keyed}{i n:Nat}{x:Keyed} (h:x∈(a.extract i n).toList) (hn:n≤a.size):∃j,∃hj:j < a.size,i≤j∧j < n∧x=a[j]:=by
 refine rE (fun m hO1=>?_) (List.getElem_of_mem h);obtain ⟨hm,rfl⟩:=hO1
 have hm':m < n - i:=by simp at hm;exact ln4 [(.lt .v0 .v2),(.mi .v2 .v1 .v3)] (.lt .v0 .v1) (.s (.d 11101) (.d 11111)) rfl hm (min_ax _ _)
 exact ⟨i + m,by lia,by lia,by lia,by simp⟩
theorem take_split (a:Array Keyed) (i n:Nat) (h:i≤n):a.toList.take n=a.toList.take i++(a.extract i n).toList:=by
 rw [Array.toList_extract]
 simp only [List.extract_eq_drop_take]
 conv=>lhs;rw [show n=i + (n - i) by exact ln3 [(.le .v1 .v0),(.sb .v2 .v0 .v1)] (.eq .v0 (.a .v1 .v2)) (.s (.s (.d 11001) (.d 11101)) (.s (.d 110001) (.d 110101))) rfl h (sub_ax _ _)]
 exact List.take_add
theorem take_snoc {a:Array Keyed}{n:Nat} (hn:1≤n) (h:n - 1 < a.size):a.toList.take n=a.toList.take (n - 1)++[a[n - 1]]:=by
 have e:n=n - 1 + 1:=by exact ln2 [(.le .k1 .v0),(.sb .v1 .v0 .k1)] (.eq .v0 (.a .v1 .k1)) (.s (.s (.d 11001) (.d 11101)) (.s (.d 110001) (.d 110101))) rfl hn (sub_ax _ _)
 conv=>lhs;rw [e]
 rw [List.take_add_one,List.getElem?_eq_getElem (by simpa using h)]
 simp
theorem extract_take (a:Array Keyed) (n:Nat):(a.extract 0 n).toList=a.toList.take n:=by
 rw [Array.toList_extract]
 simp only [List.extract_eq_drop_take,Nat.sub_zero,List.drop_zero]
variable {a b:Array Keyed}
theorem srt_le {c:Array Keyed} (h:Srt key c.toList) {i j:Nat} (hi:i < c.size) (hj:j < c.size) (hij:i≤j):T3.le (key c[i]) (key c[j])=true:=by
 have:=srt_seg.mpr h i j (Nat.zero_le _) hij hj
 rwa [KS_get hi,KS_get hj] at this
theorem res_one (T:Two a₀ key a b) (h1:b.size=1) {r:Array Keyed} (hr:r.toList=b.toList++a.toList):Res key a b r:=by
 unfold Res
 rw [hr]
 refine ⟨List.perm_append_comm,List.pairwise_append.mpr ⟨T.sb,T.sa,fun x hx y hy=>?_⟩⟩
 refine rE (fun j hO1=>?_) (List.getElem_of_mem hx);obtain ⟨hj,rfl⟩:=hO1
 refine rE (fun i hO1=>?_) (List.getElem_of_mem hy);obtain ⟨hi,rfl⟩:=hO1
 have hj0:j=0:=by simp at hj;exact ln2 [(.eq .v1 .k1),(.lt .v0 .v1)] (.eq .v0 .k0) (.s (.d 11) (.d 11101)) rfl h1 hj
 subst hj0
 have:=T.first i (by simpa using hi) (by lia)
 simpa using this
theorem wpS_mergeLo {st:SortSt}{Q:Array Keyed→SortSt→Prop} (T:Two a₀ key a b) (hb:b.size=1) (h:∀r st',Same st st'→Res key a b r→Q r st'):wpS (model prog w) A E s (mergeLo' a b) Q st:=by
 refine rE (fun rest e=>?_) (mergeLo_one a b)
 rw [e]
 refine wpS_bind (wpS_lift (wpAny_rule ⟨rfl,?_⟩))
 refine wpS_bind (wpS_elem (by lia) (wpS_ifp (by simp [hb]) (wpS_pure (h _ st (Same.refl _) (res_one T hb ?_)))))
 have:b.toList=[b[0]]:=List.ext_getElem (by simp [hb]) fun i h1 h2=>by
  have:i=0:=by simp at h2;lia
  subst this;simp
 rw [this];simp [hb]
theorem wpS_mergeHi {st:SortSt}{Q:Array Keyed→SortSt→Prop} (T:Two a₀ key a b) (hb:b.size=1) (h:∀r st',Same st st'→Res key a b r→Q r st'):wpS (model prog w) A E s (mergeHi' a b) Q st:=by
 refine rE (fun rest e=>?_) (mergeHi_one a b)
 rw [e]
 have pa:=T.pa
 have ea:a.toList=(a.extract 0 (a.size - 1)).toList++[a[a.size - 1]'(by exact ln2 [(.le .k1 .v1),(.sb .v0 .v1 .k1)] (.lt .v0 .v1) (.s (.d 11001) (.d 11101)) rfl pa (sub_ax _ _))]:=by
  have:=take_snoc (a:=a) (n:=a.size) pa (by exact ln2 [(.le .k1 .v1),(.sb .v0 .v1 .k1)] (.lt .v0 .v1) (.s (.d 11001) (.d 11101)) rfl pa (sub_ax _ _))
  rw [List.take_of_length_le (by simp)] at this
  rw [extract_take];exact this
 refine wpS_bind (wpS_lift (wpAny_rule ⟨rfl,?_⟩))
 refine wpS_bind (wpS_elem (by exact ln2 [(.le .k1 .v1),(.sb .v0 .v1 .k1)] (.lt .v0 .v1) (.s (.d 11001) (.d 11101)) rfl pa (sub_ax _ _)) ?_)
 by_cases h0:a.size - 1=0
 ·refine wpS_ifp (by simpa using h0) (wpS_pure (h _ st (Same.refl _) (res_one T hb ?_)))
  conv=>rhs;rw [ea]
  simp [h0]
 ·refine wpS_ifn (by simpa using h0) (wpS_ifp (by simp [hb]) (wpS_pure (h _ st (Same.refl _) (res_one T hb ?_))))
  conv=>rhs;rw [ea]
  simp
end
theorem mergeAt'_eq (i:Nat):mergeAt' i=(do
 let s ← get
 let (some (sa, na, power), some (sb, nb, _)) := ((pendingOf s)[i]?, (pendingOf s)[i + 1]?) | unsupported "internal:list.sort.pending"
 set (SortSt.mk' (kindOf s) (arrOf s) (((pendingOf s).setIfInBounds i (sa,na + nb,power)).eraseIdxIfInBounds (i + 1)) (gallopOf s) (failedOf s))
 let some k ← gallop' false (← elem' (arrOf s) sb) (arrOf s) sa na 0 | return false
 let (sa,na):=(sa + k,na - k)
 if na == 0 then return true
 let some nb ← gallop' true (← elem' (arrOf s) (sa + na - 1)) (arrOf s) sb nb (nb - 1) | return false
 if nb == 0 then return true
 let x:=(arrOf s).extract sa sb
 let y:=(arrOf s).extract sb (sb + nb)
 let merged ← if na≤nb then mergeLo' x y else mergeHi' x y
 modify fun s=>setArr s (merged.toList.zipIdx.foldl (fun a (p,j)=>a.setIfInBounds (sa + j) p) (arrOf s))
 return (failedOf (← get)).isNone):=rfl
noncomputable def over (xs:Array Keyed) (off:Nat) (l:List (Keyed×Nat)):Array Keyed:=l.foldl (fun a p=>a.setIfInBounds (off + p.2) p.1) xs
theorem over_get (off : Nat) : ∀ (r : List Keyed) (n : Nat) (xs : Array Keyed), off + n + r.length ≤ xs.size → ∀ k : Nat,
  (over xs off (r.zipIdx n))[k]? = if off + n≤k∧k < off + n + r.length then r[k - (off + n)]? else xs[k]?
 | [],n,xs,_,k=>by rw [if_neg (by simp)];rfl
 | x::r,n,xs,h,k=>by
  rw [List.zipIdx_cons]
  show (over (xs.setIfInBounds (off + n) x) off (r.zipIdx (n + 1)))[k]? = _
  simp only [List.length_cons] at h ⊢
  rw [over_get off r (n + 1) _ (by simp;exact ln4 [(.le (.a (.a .v0 .v1) (.a .v2 .k1)) .v3)] (.le (.a (.a .v0 (.a .v1 .k1)) .v2) .v3) (.d 111) rfl h)]
  by_cases h1:k=off + n
  ·subst h1
   rw [if_neg (by exact ln3 [] (.no (.an (.le (.a .v0 (.a .v1 .k1)) (.a .v0 .v1)) (.lt (.a .v0 .v1) (.a (.a .v0 (.a .v1 .k1)) .v2)))) (.d 11) rfl),if_pos (by exact ln3 [] (.an (.le (.a .v0 .v1) (.a .v0 .v1)) (.lt (.a .v0 .v1) (.a (.a .v0 .v1) (.a .v2 .k1)))) (.s (.d 11) (.d 11)) rfl)]
   simp [show off + n < xs.size by exact ln4 [(.le (.a (.a .v0 .v1) (.a .v3 .k1)) .v2)] (.lt (.a .v0 .v1) .v2) (.d 111) rfl h]
  ·by_cases h2:off + (n + 1)≤k∧k < off + (n + 1) + r.length
   ·rw [if_pos h2,if_pos (by exact ln4 [(.an (.le (.a .v0 (.a .v1 .k1)) .v2) (.lt .v2 (.a (.a .v0 (.a .v1 .k1)) .v3)))] (.an (.le (.a .v0 .v1) .v2) (.lt .v2 (.a (.a .v0 .v1) (.a .v3 .k1)))) (.s (.d 111) (.d 1101)) rfl h2)]
    rw [show k - (off + n)=k - (off + (n + 1)) + 1 by exact ln6 [(.an (.le (.a .v2 (.a .v3 .k1)) .v4) (.lt .v4 (.a (.a .v2 (.a .v3 .k1)) .v5))),(.sb .v1 .v4 (.a .v2 (.a .v3 .k1))),(.sb .v0 .v4 (.a .v2 .v3))] (.eq .v0 (.a .v1 .k1)) (.s (.s (.s (.d 1100010001) (.d 10100001)) (.s (.d 1110010001) (.d 10100001))) (.s (.s (.d 110000101) (.d 10100001)) (.s (.d 110010101) (.d 10100001)))) rfl h2 (sub_ax _ _) (sub_ax _ _)];simp
   ·rw [if_neg h2,if_neg (by exact ln4 [(.no (.eq .v2 (.a .v0 .v1))),(.no (.an (.le (.a .v0 (.a .v1 .k1)) .v2) (.lt .v2 (.a (.a .v0 (.a .v1 .k1)) .v3))))] (.no (.an (.le (.a .v0 .v1) .v2) (.lt .v2 (.a (.a .v0 .v1) (.a .v3 .k1))))) (.s (.s (.d 1101) (.d 1101)) (.s (.d 10011) (.d 10101))) rfl h1 h2)]
    rw [Array.getElem?_setIfInBounds,if_neg (by exact ln3 [(.no (.eq .v2 (.a .v0 .v1)))] (.no (.eq (.a .v0 .v1) .v2)) (.s (.d 1101) (.d 1011)) rfl h1)]
theorem over_perm {xs r:Array Keyed}{off e:Nat} (he:off≤e) (hs:e≤xs.size) (hp:r.toList.Perm (xs.extract off e).toList):(over xs off (r.toList.zipIdx)).Perm xs:=by
 have hl:r.toList.length=e - off:=by rw [hp.length_eq];simp;exact ln6 [(.le .v2 .v3),(.mi .v0 .v1 .v4),(.sb .v4 .v3 .v5),(.sb .v1 .v2 .v5)] (.eq .v0 .v1) (.s (.s (.s (.s (.d 110001) (.d 110001)) (.s (.d 110001) (.d 110001))) (.s (.s (.d 11100100101) (.d 11000110101)) (.s (.d 11100110101) (.d 11000100101)))) (.s (.s (.s (.d 11001) (.d 11001)) (.s (.d 11001) (.d 11001))) (.s (.s (.d 11011) (.d 11011)) (.s (.d 11011) (.d 11011))))) rfl hs (min_ax _ _) (sub_ax _ _) (sub_ax _ _)
 have key:(over xs off (r.toList.zipIdx)).toList=xs.toList.take off++r.toList++xs.toList.drop e:=by
  apply List.ext_getElem?
  intro k
  rw [Array.getElem?_toList,over_get off r.toList 0 xs (by exact ln5 [(.le .v0 .v3),(.le .v3 .v2),(.eq .v1 .v4),(.sb .v4 .v3 .v0)] (.le (.a (.a .v0 .k0) .v1) .v2) (.s (.d 11011001) (.d 11111001)) rfl he hs hl (sub_ax _ _))]
  rw [List.append_assoc]
  by_cases h1:k < off
  ·rw [if_neg (by exact ln3 [(.lt .v1 .v0)] (.no (.an (.le (.a .v0 .k0) .v1) (.lt .v1 (.a (.a .v0 .k0) .v2)))) (.d 1101) rfl h1),List.getElem?_append_left (by simp;exact ln5 [(.le .v2 .v3),(.le .v3 .v4),(.lt .v0 .v2),(.mi .v1 .v2 .v4)] (.lt .v0 .v1) (.s (.d 11001001) (.d 11111001)) rfl he hs h1 (min_ax _ _)),List.getElem?_take_of_lt h1];simp
  ·rw [List.getElem?_append_right (by simp;exact ln4 [(.no (.lt .v1 .v2)),(.mi .v0 .v2 .v3)] (.le .v0 .v1) (.s (.d 11101) (.d 11111)) rfl h1 (min_ax _ _))]
   have e0:(xs.toList.take off).length=off:=by simp;exact ln4 [(.le .v1 .v2),(.le .v2 .v3),(.mi .v0 .v1 .v3)] (.eq .v0 .v1) (.s (.s (.d 1100001) (.d 1111001)) (.s (.d 110001) (.d 110011))) rfl he hs (min_ax _ _)
   rw [e0]
   by_cases h2:k < e
   ·rw [if_pos (by exact ln5 [(.eq .v2 .v3),(.no (.lt .v1 .v0)),(.lt .v1 .v4),(.sb .v3 .v4 .v0)] (.an (.le (.a .v0 .k0) .v1) (.lt .v1 (.a (.a .v0 .k0) .v2))) (.s (.s (.d 11001) (.d 11001)) (.s (.d 110101001) (.d 1000111))) rfl hl h1 h2 (sub_ax _ _)),List.getElem?_append_left (by exact ln6 [(.eq .v1 .v2),(.no (.lt .v3 .v4)),(.lt .v3 .v5),(.sb .v2 .v5 .v4),(.sb .v0 .v3 .v4)] (.lt .v0 .v1) (.s (.s (.d 11010100101) (.d 11011100101)) (.s (.d 1000111) (.d 1000111))) rfl hl h1 h2 (sub_ax _ _) (sub_ax _ _))];simp
   ·rw [if_neg (by exact ln5 [(.eq .v2 .v3),(.no (.lt .v1 .v4)),(.sb .v3 .v4 .v0)] (.no (.an (.le (.a .v0 .k0) .v1) (.lt .v1 (.a (.a .v0 .k0) .v2)))) (.s (.d 10110101) (.d 11110001)) rfl hl h2 (sub_ax _ _)),List.getElem?_append_right (by exact ln6 [(.eq .v0 .v2),(.no (.lt .v3 .v4)),(.sb .v2 .v4 .v5),(.sb .v1 .v3 .v5)] (.le .v0 .v1) (.s (.s (.d 11101010001) (.d 11101010101)) (.s (.d 11100010101) (.d 11100010001))) rfl hl h2 (sub_ax _ _) (sub_ax _ _)),List.getElem?_drop,hl]
    rw [show e + (k - off - (e - off))=k by exact ln6 [(.le .v3 .v0),(.no (.lt .v2 .v0)),(.sb .v1 .v5 .v4),(.sb .v4 .v0 .v3),(.sb .v5 .v2 .v3)] (.eq (.a .v0 .v1) .v2) (.s (.s (.s (.s (.d 1100001010001) (.d 11101010001)) (.s (.d 1110001010001) (.d 11101010001))) (.s (.s (.d 1100101010001) (.d 11100010001)) (.s (.d 1110101010001) (.d 11100010001)))) (.s (.s (.s (.d 110001000101) (.d 111101000101)) (.s (.d 110001010101) (.d 110101000101))) (.s (.s (.d 110101) (.d 110101)) (.s (.d 110101) (.d 110101))))) rfl he h2 (sub_ax _ _) (sub_ax _ _) (sub_ax _ _)];simp
 rw [Array.perm_iff_toList_perm,key]
 have e1:xs.toList=xs.toList.take off++(xs.extract off e).toList++xs.toList.drop e:=by
  rw [← take_split xs off e he,List.take_append_drop]
 conv=>rhs;rw [e1]
 exact List.Perm.append_right _ (List.Perm.append_left _ hp)
section
variable {prog:Program}{w:World}{A:Around}{E:Value→Shared→Prop}{s:Shared}{a₀:Array Keyed}{κ:SortKind}{key:Keyed→T3}
structure SA (a₀:Array Keyed) (κ:SortKind) (st:SortSt):Prop where
 perm:(arrOf st).Perm a₀
 kind:kindOf st=κ
 ok:failedOf st=none
theorem SA.size {st:SortSt} (h:SA a₀ κ st):(arrOf st).size=a₀.size:=h.perm.size_eq
theorem wpS_set {σ:Type}{M:Model}{t st:σ}{Q:PUnit→σ→Prop} (h:Q ⟨⟩ t):wpS M A E s (set t:StateT σ Sem PUnit) Q st:=by
 unfold wpS;exact wpAny_pure ⟨rfl,h⟩
theorem mem_seg {xs:Array Keyed}{i j:Nat}{x:Keyed} (h:x∈(xs.extract i j).toList) (hj:j≤xs.size):∃t,i≤t∧t < j∧KS key xs t=key x:=by
 refine rE (fun t hO1=>?_) (mem_ext h hj);obtain ⟨ht,h1,h2,rfl⟩:=hO1
 exact ⟨t,h1,h2,KS_get ht⟩
theorem ext_srt {xs:Array Keyed}{i j:Nat} (hs:SegS key xs i j) (hj:j≤xs.size):Srt key (xs.extract i j).toList:=by
 rw [← srt_seg]
 intro p q _ hpq hq
 have hsz:(xs.extract i j).size=j - i:=by simp;exact ln6 [(.le .v2 .v3),(.sb .v1 .v2 .v4),(.sb .v0 .v5 .v4),(.mi .v5 .v2 .v3)] (.eq .v0 .v1) (.s (.s (.s (.s (.d 110010001001) (.d 111010001001)) (.s (.d 110010101001) (.d 111010101001))) (.s (.s (.d 110010101) (.d 110010101)) (.s (.d 110010001) (.d 110010001)))) (.s (.s (.s (.d 11000101001) (.d 11000101011)) (.s (.d 11010101) (.d 11010101))) (.s (.s (.d 11010101001) (.d 11010101011)) (.s (.d 11000101) (.d 11000101))))) rfl hj (sub_ax _ _) (sub_ax _ _) (min_ax _ _)
 rw [hsz] at hq
 have g:∀p,p < j - i→KS key (xs.extract i j) p=KS key xs (i + p):=fun p hp=>KS_congr (by rw [Array.getElem?_extract];rw [if_pos (by exact ln7 [(.le .v2 .v3),(.lt .v0 .v4),(.sb .v4 .v2 .v5),(.sb .v1 .v6 .v5),(.mi .v6 .v2 .v3)] (.lt .v0 .v1) (.s (.s (.s (.d 1101010001001) (.d 1111010001001)) (.s (.d 1101010101001) (.d 1111010101001))) (.s (.s (.d 1101010101) (.d 1101010101)) (.s (.d 1101010001) (.d 1101010001)))) rfl hj hp (sub_ax _ _) (sub_ax _ _) (min_ax _ _))])
 rw [g p (by exact ln3 [(.le .v0 .v2),(.lt .v2 .v1)] (.lt .v0 .v1) (.d 1111) rfl hpq hq),g q hq]
 exact hs _ _ (by exact ln2 [] (.le .v0 (.a .v0 .v1)) (.d 11) rfl) (by exact ln3 [(.le .v1 .v2)] (.le (.a .v0 .v1) (.a .v0 .v2)) (.d 111) rfl hpq) (by exact ln4 [(.lt .v1 .v3),(.sb .v3 .v2 .v0)] (.lt (.a .v0 .v1) .v2) (.s (.d 11101) (.d 10101)) rfl hq (sub_ax _ _))
theorem wpS_mergeAt {st : SortSt} {i sa na pw sb nb pw2 : Nat} {Q : Bool → SortSt → Prop} (H : LtOK prog w A E s κ a₀ key) (hA : SA a₀ κ st) (h1 : (pendingOf st)[i]? = some (sa, na, pw)) (h2 : (pendingOf st)[i + 1]? = some (sb, nb, pw2))
  (hsb:sb=sa + na) (hna:1≤na) (hnb:1≤nb) (hb1:nb=1) (hsz:sb + nb≤a₀.size) (hs1:SegS key (arrOf st) sa sb) (hs2:SegS key (arrOf st) sb (sb + nb))
  (h:∀st',SA a₀ κ st'→pendingOf st'=((pendingOf st).setIfInBounds i (sa,na + nb,pw)).eraseIdxIfInBounds (i + 1)→(∀k:Nat,k < sa∨sb + nb≤k→(arrOf st')[k]? = (arrOf st)[k]?)→SegS key (arrOf st') sa (sb + nb)→Q true st') :
  wpS (model prog w) A E s (mergeAt' i) Q st:=by
 have hin:∀i (hi:i < (arrOf st).size),(arrOf st)[i]∈a₀.toList:=fun i hi=>mem_of_perm hA.perm hi
 have hz:=hA.size
 rw [mergeAt'_eq]
 refine wpS_bind (wpS_get ?_)
 dsimp only
 rw [h1,h2]
 dsimp only
 refine wpS_bind (wpS_set ?_)
 have key0:∀st':SortSt,st'=SortSt.mk' (kindOf st) (arrOf st) (((pendingOf st).setIfInBounds i (sa,na + nb,pw)).eraseIdxIfInBounds (i + 1)) (gallopOf st) (failedOf st)→SegS key (arrOf st) sa (sb + nb)→Q true st':=fun st' e hs=>by
  subst e;exact h _ ⟨hA.perm,hA.kind,hA.ok⟩ rfl (fun u_ v_=>rfl) hs
 refine wpS_bind (wpS_elem (show sb < (arrOf st).size by exact ln4 [(.le .k1 .v2),(.le (.a .v0 .v2) .v3),(.eq .v1 .v3)] (.lt .v0 .v1) (.d 111101) rfl hnb hsz hz) (wpS_bind (wpS_gallop H hA.kind (hin _ _) hin (by exact ln6 [(.eq .v3 (.a .v0 .v1)),(.le (.a .v3 .v4) .v5),(.eq .v2 .v5)] (.le (.a .v0 .v1) .v2) (.d 1101101) rfl hsb hsz hz) (hsb ▸ hs1) (by exact ln1 [(.le .k1 .v0)] (.lt .k0 .v0) (.d 111) rfl hna) fun k hkn g1 g2=>?_)))
 dsimp only
 simp only [Bool.false_eq_true,if_false] at g1 g2
 have f1:∀t,sa≤t→t < sa + k→T3.le (KS key (arrOf st) t) (KS key (arrOf st) sb)=true:=fun t ht1 ht2=>by
  have:=g1 (t - sa) (by exact ln4 [(.le .v2 .v3),(.lt .v3 (.a .v2 .v1)),(.sb .v0 .v3 .v2)] (.lt .v0 .v1) (.s (.d 110101) (.d 111101)) rfl ht1 ht2 (sub_ax _ _))
  rw [show sa + (t - sa)=t by exact ln3 [(.le .v0 .v2),(.sb .v1 .v2 .v0)] (.eq (.a .v0 .v1) .v2) (.s (.s (.d 110001) (.d 110101)) (.s (.d 11001) (.d 11101))) rfl ht1 (sub_ax _ _)] at this
  rw [KS_get (show sb < (arrOf st).size by exact ln4 [(.le .k1 .v2),(.le (.a .v0 .v2) .v3),(.eq .v1 .v3)] (.lt .v0 .v1) (.d 111101) rfl hnb hsz hz)];exact this
 have f2:∀t,sa + k≤t→t < sb→T3.le (KS key (arrOf st) sb) (KS key (arrOf st) t)=true:=fun t ht1 ht2=>by
  have:=g2 (t - sa) (by exact ln4 [(.le (.a .v2 .v0) .v3),(.sb .v1 .v3 .v2)] (.le .v0 .v1) (.s (.d 111001) (.d 111101)) rfl ht1 (sub_ax _ _)) (by exact ln5 [(.eq .v2 (.a .v3 .v1)),(.le .k1 .v1),(.lt .v4 .v2),(.sb .v0 .v4 .v3)] (.lt .v0 .v1) (.s (.d 11100101) (.d 11001001)) rfl hsb hna ht2 (sub_ax _ _))
  rw [show sa + (t - sa)=t by exact ln4 [(.le (.a .v0 .v3) .v2),(.sb .v1 .v2 .v0)] (.eq (.a .v0 .v1) .v2) (.s (.s (.d 110001) (.d 110101)) (.s (.d 11001) (.d 11101))) rfl ht1 (sub_ax _ _)] at this
  rw [KS_get (show sb < (arrOf st).size by exact ln4 [(.le .k1 .v2),(.le (.a .v0 .v2) .v3),(.eq .v1 .v3)] (.lt .v0 .v1) (.d 111101) rfl hnb hsz hz)];exact le3_total this
 by_cases hk0:na - k=0
 ·rw [if_pos (by simpa using hk0)]
  refine wpS_pure (key0 _ rfl fun p q hp hpq hq=>?_)
  by_cases c1:q < sb
  ·exact hs1 p q hp hpq c1
  ·by_cases c2:sb≤p
   ·exact hs2 p q c2 hpq hq
   ·exact le3_trans (f1 p hp (by exact ln6 [(.eq .v3 (.a .v1 .v4)),(.eq .v5 .k0),(.no (.le .v3 .v0)),(.sb .v5 .v4 .v2)] (.lt .v0 (.a .v1 .v2)) (.s (.d 1110101001) (.d 11100011)) rfl hsb hk0 c2 (sub_ax _ _))) (hs2 sb q (Nat.le_refl _) (by exact ln2 [(.no (.lt .v1 .v0))] (.le .v0 .v1) (.d 111) rfl c1) hq)
 ·rw [if_neg (by simpa using hk0)]
  have hlast:sa + k + (na - k) - 1=sb - 1:=by exact ln7 [(.eq .v2 (.a .v3 .v4)),(.le .v5 .v4),(.sb .v1 .v2 .k1),(.sb .v0 (.a (.a .v3 .v5) .v6) .k1),(.sb .v6 .v4 .v5)] (.eq .v0 .v1) (.s (.s (.s (.s (.d 11100010001001) (.d 11100010001101)) (.s (.d 11100010101001) (.d 11100010101101))) (.s (.s (.d 11000010101) (.d 11000010101)) (.s (.d 11000010001) (.d 11000010001)))) (.s (.s (.s (.d 1101000101001) (.d 1101100101001)) (.s (.d 1100010101) (.d 1100010101))) (.s (.s (.d 1101010101001) (.d 1101110101001)) (.s (.d 1100000101) (.d 1100000101))))) rfl hsb hkn (sub_ax _ _) (sub_ax _ _) (sub_ax _ _)
  rw [hlast]
  refine wpS_bind (wpS_elem (show sb - 1 < (arrOf st).size by exact ln5 [(.le .k1 .v2),(.le (.a .v3 .v2) .v4),(.eq .v1 .v4),(.sb .v0 .v3 .k1)] (.lt .v0 .v1) (.s (.d 11110101) (.d 11110101)) rfl hnb hsz hz (sub_ax _ _)) (wpS_bind (wpS_gallop H hA.kind (hin _ _) hin (by exact ln4 [(.le (.a .v0 .v1) .v3),(.eq .v2 .v3)] (.le (.a .v0 .v1) .v2) (.d 11101) rfl hsz hz) hs2 (by exact ln2 [(.le .k1 .v1),(.sb .v0 .v1 .k1)] (.lt .v0 .v1) (.s (.d 11001) (.d 11101)) rfl hnb (sub_ax _ _)) fun m hmn g3 g4=>?_)))
  dsimp only
  simp only [if_true] at g3 g4
  have f3:∀t,sb≤t→t < sb + m→T3.le (KS key (arrOf st) t) (KS key (arrOf st) (sb - 1))=true:=fun t ht1 ht2=>by
   have:=g3 (t - sb) (by exact ln4 [(.le .v2 .v3),(.lt .v3 (.a .v2 .v1)),(.sb .v0 .v3 .v2)] (.lt .v0 .v1) (.s (.d 110101) (.d 111101)) rfl ht1 ht2 (sub_ax _ _))
   rw [show sb + (t - sb)=t by exact ln3 [(.le .v0 .v2),(.sb .v1 .v2 .v0)] (.eq (.a .v0 .v1) .v2) (.s (.s (.d 110001) (.d 110101)) (.s (.d 11001) (.d 11101))) rfl ht1 (sub_ax _ _)] at this
   rw [KS_get (show sb - 1 < (arrOf st).size by exact ln5 [(.le .k1 .v2),(.le (.a .v3 .v2) .v4),(.eq .v1 .v4),(.sb .v0 .v3 .k1)] (.lt .v0 .v1) (.s (.d 11110101) (.d 11110101)) rfl hnb hsz hz (sub_ax _ _))];exact le3_total (by simpa using this)
  have f4:∀t,sb + m≤t→t < sb + nb→T3.le (KS key (arrOf st) (sb - 1)) (KS key (arrOf st) t)=true:=fun t ht1 ht2=>by
   have:=g4 (t - sb) (by exact ln4 [(.le (.a .v2 .v0) .v3),(.sb .v1 .v3 .v2)] (.le .v0 .v1) (.s (.d 111001) (.d 111101)) rfl ht1 (sub_ax _ _)) (by exact ln4 [(.le .k1 .v1),(.lt .v2 (.a .v3 .v1)),(.sb .v0 .v2 .v3)] (.lt .v0 .v1) (.s (.d 110101) (.d 111001)) rfl hnb ht2 (sub_ax _ _))
   rw [show sb + (t - sb)=t by exact ln4 [(.le (.a .v0 .v3) .v2),(.sb .v1 .v2 .v0)] (.eq (.a .v0 .v1) .v2) (.s (.s (.d 110001) (.d 110101)) (.s (.d 11001) (.d 11101))) rfl ht1 (sub_ax _ _)] at this
   rw [KS_get (show sb - 1 < (arrOf st).size by exact ln5 [(.le .k1 .v2),(.le (.a .v3 .v2) .v4),(.eq .v1 .v4),(.sb .v0 .v3 .k1)] (.lt .v0 .v1) (.s (.d 11110101) (.d 11110101)) rfl hnb hsz hz (sub_ax _ _))];simpa using this
  by_cases hm0:m=0
  ·rw [if_pos (by simpa using hm0)]
   refine wpS_pure (key0 _ rfl fun p q hp hpq hq=>?_)
   by_cases c1:q < sb
   ·exact hs1 p q hp hpq c1
   ·by_cases c2:sb≤p
    ·exact hs2 p q c2 hpq hq
    ·exact le3_trans (hs1 p (sb - 1) hp (by exact ln3 [(.no (.le .v2 .v0)),(.sb .v1 .v2 .k1)] (.le .v0 .v1) (.s (.d 111001) (.d 111101)) rfl c2 (sub_ax _ _)) (by exact ln3 [(.no (.le .v1 .v2)),(.sb .v0 .v1 .k1)] (.lt .v0 .v1) (.s (.d 11001) (.d 11101)) rfl c2 (sub_ax _ _))) (f4 q (by exact ln3 [(.eq .v1 .k0),(.no (.lt .v2 .v0))] (.le (.a .v0 .v1) .v2) (.d 11101) rfl hm0 c1) hq)
  ·rw [if_neg (by simpa using hm0)]
   have hx:∀j (hj:j < ((arrOf st).extract (sa + k) sb).size),((arrOf st).extract (sa + k) sb)[j]=(arrOf st)[sa + k + j]'(by simp at hj;lia):=fun j hj=>by simp
   have hy:∀j (hj:j < ((arrOf st).extract sb (sb + m)).size),((arrOf st).extract sb (sb + m))[j]=(arrOf st)[sb + j]'(by simp at hj;lia):=fun j hj=>by simp
   have zx:((arrOf st).extract (sa + k) sb).size=na - k:=by simp;exact lin [(.eq .v2 (.a .v3 .v4)),(.le (.a .v2 .v5) .v6),(.eq .v7 .v6),(.sb .v1 .v4 .v8),(.sb .v0 .v9 (.a .v3 .v8)),(.mi .v9 .v2 .v7)] (.eq .v0 .v1) (.s (.s (.s (.s (.d 1101000010001001) (.d 1101101010001001)) (.s (.d 1101000010101001) (.d 1101101010101001))) (.s (.s (.d 1100000010101) (.d 1100000010101)) (.s (.d 1100000010001) (.d 1100000010001)))) (.s (.s (.s (.d 111000000101001) (.d 111000000101011)) (.s (.d 110000010101) (.d 110000010101))) (.s (.s (.d 111000010101001) (.d 111000010101011)) (.s (.d 110000000101) (.d 110000000101))))) rfl [_,_,_,_,_,_,_,_,_,_] [] hsb hsz hz (sub_ax _ _) (sub_ax _ _) (min_ax _ _)
   have zy:((arrOf st).extract sb (sb + m)).size=m:=by simp;exact ln7 [(.le (.a .v2 .v3) .v4),(.eq .v5 .v4),(.le .v1 .v3),(.sb .v0 .v6 .v2),(.mi .v6 (.a .v2 .v1) .v5)] (.eq .v0 .v1) (.s (.s (.s (.d 110000001001) (.d 111011001001)) (.s (.d 110000101001) (.d 111011101001))) (.s (.s (.d 11000001001) (.d 11000001011)) (.s (.d 11000001) (.d 11000001)))) rfl hsz hz hmn (sub_ax _ _) (min_ax _ _)
   have hm1:m=1:=by exact ln2 [(.eq .v1 .k1),(.le .v0 .v1),(.no (.eq .v0 .k0))] (.eq .v0 .k1) (.s (.s (.d 100001) (.d 110001)) (.s (.d 11101) (.d 11101))) rfl hb1 hmn hm0
   have T:Two a₀ key ((arrOf st).extract (sa + k) sb) ((arrOf st).extract sb (sb + m)):=by
    refine ⟨fun j hj=>by rw [hx j hj];exact hin _ _,fun j hj=>by rw [hy j hj];exact hin _ _,ext_srt (fun p q a1 a2 a3=>hs1 p q (by exact ln3 [(.le (.a .v0 .v2) .v1)] (.le .v0 .v1) (.d 111) rfl a1) a2 a3) (by exact ln4 [(.le (.a .v0 .v2) .v3),(.eq .v1 .v3)] (.le .v0 .v1) (.d 11101) rfl hsz hz),ext_srt (fun p q a1 a2 a3=>hs2 p q a1 a2 (by exact ln4 [(.le .v3 .v2),(.lt .v0 (.a .v1 .v3))] (.lt .v0 (.a .v1 .v2)) (.d 1111) rfl hmn a3)) (by exact ln5 [(.le (.a .v0 .v3) .v4),(.eq .v2 .v4),(.le .v1 .v3)] (.le (.a .v0 .v1) .v2) (.d 111011) rfl hsz hz hmn),by exact ln2 [(.eq .v0 .v1),(.no (.eq .v1 .k0))] (.le .k1 .v0) (.s (.d 10101) (.d 11011)) rfl zx hk0,by exact ln2 [(.eq .v0 .v1),(.no (.eq .v1 .k0))] (.le .k1 .v0) (.s (.d 10101) (.d 11011)) rfl zy hm0,fun j hj h0=>?_,fun j hj h0=>?_⟩
    ·rw [hx j hj,hy 0 h0]
     have:=f2 (sa + k + j) (by exact ln3 [] (.le (.a .v0 .v1) (.a (.a .v0 .v1) .v2)) (.d 11) rfl) (by exact ln7 [(.eq .v3 (.a .v0 .v4)),(.eq .v5 .v6),(.lt .v2 .v5),(.sb .v6 .v4 .v1)] (.lt (.a (.a .v0 .v1) .v2) .v3) (.s (.d 110110101) (.d 100010101)) rfl hsb zx hj (sub_ax _ _))
     rw [KS_get (by exact ln4 [(.le .k1 .v2),(.le (.a .v0 .v2) .v3),(.eq .v1 .v3)] (.lt .v0 .v1) (.d 111101) rfl hnb hsz hz),KS_get (by exact lin [(.eq .v4 (.a .v0 .v5)),(.le (.a .v4 .v6) .v7),(.eq .v3 .v7),(.eq .v8 .v9),(.lt .v2 .v8),(.sb .v9 .v5 .v1)] (.lt (.a (.a .v0 .v1) .v2) .v3) (.s (.d 110110110101) (.d 100000010101)) rfl [_,_,_,_,_,_,_,_,_,_] [] hsb hsz hz zx hj (sub_ax _ _))] at this
     exact this
    ·rw [hx _ h0,hy j hj]
     have:=f3 (sb + j) (by exact ln2 [] (.le .v0 (.a .v0 .v1)) (.d 11) rfl) (by exact ln4 [(.eq .v3 .v2),(.lt .v1 .v3)] (.lt (.a .v0 .v1) (.a .v0 .v2)) (.d 11101) rfl zy hj)
     rw [KS_get (by exact ln7 [(.le (.a .v0 .v3) .v4),(.eq .v2 .v4),(.le .v5 .v3),(.eq .v6 .v5),(.lt .v1 .v6)] (.lt (.a .v0 .v1) .v2) (.d 111011101) rfl hsz hz hmn zy hj),KS_get (by exact ln5 [(.le .k1 .v2),(.le (.a .v3 .v2) .v4),(.eq .v1 .v4),(.sb .v0 .v3 .k1)] (.lt .v0 .v1) (.s (.d 11110101) (.d 11110101)) rfl hnb hsz hz (sub_ax _ _))] at this
     have e:sa + k + (((arrOf st).extract (sa + k) sb).size - 1)=sb - 1:=by exact ln7 [(.eq .v4 .v3),(.eq .v5 .v6),(.lt .v2 .v5),(.sb .v4 (.a (.a .v0 .v1) .v6) .k1),(.sb .v2 .v5 .k1)] (.eq (.a (.a .v0 .v1) .v2) .v3) (.s (.s (.s (.d 1101010010001) (.d 1101010010101)) (.s (.d 1101000010101) (.d 1101000010001))) (.s (.s (.d 1110101001) (.d 1110101001)) (.s (.d 1110101101) (.d 1110101101)))) rfl hlast zx h0 (sub_ax _ _) (sub_ax _ _)
     simp only [e]
     exact this
   have fin : ∀ (r : Array Keyed) (st' : SortSt), Same (SortSt.mk' (kindOf st) (arrOf st) (((pendingOf st).setIfInBounds i (sa, na + nb, pw)).eraseIdxIfInBounds (i + 1)) (gallopOf st) (failedOf st)) st' → Res key ((arrOf st).extract (sa + k) sb) ((arrOf st).extract sb (sb + m)) r →
     Q true (setArr st' (over (arrOf st') (sa + k) r.toList.zipIdx))∧(failedOf st').isNone=true:=by
    intro r st' hS hR
    have earr:arrOf st'=arrOf st:=hS.arr
    have hfail:failedOf st'=none:=hS.ok.trans hA.ok
    have hcat:((arrOf st).extract (sa + k) sb).toList++((arrOf st).extract sb (sb + m)).toList=((arrOf st).extract (sa + k) (sb + m)).toList:=by
     rw [← Array.toList_append,Array.extract_append_extract]
     congr 2 <;> lia
    have hp:r.toList.Perm ((arrOf st).extract (sa + k) (sb + m)).toList:=hcat ▸ hR.1
    have hlen:r.toList.length=sb + m - (sa + k):=by rw [hp.length_eq];simp;exact lin [(.le (.a .v2 .v3) .v4),(.eq .v5 .v4),(.le .v6 .v3),(.mi .v0 .v1 .v7),(.sb .v7 .v5 (.a .v8 .v9)),(.sb .v1 (.a .v2 .v6) (.a .v8 .v9))] (.eq .v0 .v1) (.s (.s (.s (.s (.d 110000001) (.d 110000001)) (.s (.d 110000001) (.d 110000001))) (.s (.s (.d 11101100100101) (.d 11000000110101)) (.s (.d 11101100110101) (.d 11000000100101)))) (.s (.s (.s (.d 11000001) (.d 11000001)) (.s (.d 11000001) (.d 11000001))) (.s (.s (.d 11000011) (.d 11000011)) (.s (.d 11000011) (.d 11000011))))) rfl [_,_,_,_,_,_,_,_,_,_] [] hsz hz hmn (min_ax _ _) (sub_ax _ _) (sub_ax _ _)
    have hget:∀t,KS key (over (arrOf st) (sa + k) r.toList.zipIdx) t=if sa + k≤t∧t < sb + m then key (r.toList[t - (sa + k)]?.getD default) else KS key (arrOf st) t:=fun t=>by
     unfold KS
     rw [over_get (sa + k) r.toList 0 (arrOf st) (by exact lin [(.eq .v4 (.a .v0 .v5)),(.le (.a .v4 .v6) .v7),(.eq .v3 .v7),(.le .v1 .v5),(.le .v8 .v6),(.eq .v2 .v9),(.sb .v9 (.a .v4 .v8) (.a .v0 .v1))] (.le (.a (.a (.a .v0 .v1) .k0) .v2) .v3) (.s (.d 1100101011001) (.d 1101101111001)) rfl [_,_,_,_,_,_,_,_,_,_] [] hsb hsz hz hkn hmn hlen (sub_ax _ _))]
     by_cases c:sa + k≤t∧t < sb + m
     ·rw [if_pos (by exact ln7 [(.eq .v3 .v4),(.an (.le (.a .v0 .v1) .v2) (.lt .v2 (.a .v5 .v6))),(.sb .v4 (.a .v5 .v6) (.a .v0 .v1))] (.an (.le (.a (.a .v0 .v1) .k0) .v2) (.lt .v2 (.a (.a (.a .v0 .v1) .k0) .v3))) (.s (.s (.d 11001) (.d 11001)) (.s (.d 110101001) (.d 1000111))) rfl hlen c (sub_ax _ _)),if_pos c];rfl
     ·rw [if_neg (by exact ln7 [(.eq .v3 .v4),(.no (.an (.le (.a .v0 .v1) .v2) (.lt .v2 (.a .v5 .v6)))),(.sb .v4 (.a .v5 .v6) (.a .v0 .v1))] (.no (.an (.le (.a (.a .v0 .v1) .k0) .v2) (.lt .v2 (.a (.a (.a .v0 .v1) .k0) .v3)))) (.s (.s (.d 110001) (.d 110001)) (.s (.d 10110101) (.d 11110001))) rfl hlen c (sub_ax _ _)),if_neg c]
    have hr:∀t,sa + k≤t→t < sb + m→∃u,sa + k≤u∧u < sb + m∧key (r.toList[t - (sa + k)]?.getD default)=KS key (arrOf st) u:=fun t t1 t2=>by
     have ht:t - (sa + k) < r.toList.length:=by exact lin [(.eq .v1 .v2),(.le (.a .v3 .v4) .v5),(.lt .v5 (.a .v6 .v7)),(.sb .v2 (.a .v6 .v7) (.a .v3 .v4)),(.sb .v0 .v5 (.a .v3 .v4))] (.lt .v0 .v1) (.s (.s (.d 11010100101) (.d 11011100101)) (.s (.d 1000111) (.d 1000111))) rfl [_,_,_,_,_,_,_,_] [] hlen t1 t2 (sub_ax _ _) (sub_ax _ _)
     rw [List.getElem?_eq_getElem ht]
     refine rEAA (fun u u1 u2 u3=>?_) (mem_seg (key:=key) (hp.mem_iff.mp (List.getElem_mem ht)) (by exact ln5 [(.le (.a .v0 .v3) .v4),(.eq .v2 .v4),(.le .v1 .v3)] (.le (.a .v0 .v1) .v2) (.d 111011) rfl hsz hz hmn))
     exact ⟨u,u1,u2,u3.symm⟩
    have low:∀p u,sa≤p→p < sa + k→sa + k≤u→u < sb + m→T3.le (KS key (arrOf st) p) (KS key (arrOf st) u)=true:=fun p u p1 p2 u1 u2=>by
     by_cases c:u < sb
     ·exact hs1 p u p1 (by exact ln4 [(.lt .v0 (.a .v2 .v3)),(.le (.a .v2 .v3) .v1)] (.le .v0 .v1) (.d 1111) rfl p2 u1) c
     ·exact le3_trans (f1 p p1 p2) (hs2 sb u (Nat.le_refl _) (by exact ln2 [(.no (.lt .v1 .v0))] (.le .v0 .v1) (.d 111) rfl c) (by exact ln4 [(.le .v3 .v2),(.lt .v0 (.a .v1 .v3))] (.lt .v0 (.a .v1 .v2)) (.d 1111) rfl hmn u2))
    have high:∀u q,sa + k≤u→u < sb + m→sb + m≤q→q < sb + nb→T3.le (KS key (arrOf st) u) (KS key (arrOf st) q)=true:=fun u q u1 u2 q1 q2=>by
     by_cases c:u < sb
     ·exact le3_trans (hs1 u (sb - 1) (by exact ln3 [(.le (.a .v0 .v2) .v1)] (.le .v0 .v1) (.d 111) rfl u1) (by exact ln3 [(.lt .v0 .v2),(.sb .v1 .v2 .k1)] (.le .v0 .v1) (.s (.d 111001) (.d 111101)) rfl c (sub_ax _ _)) (by exact ln3 [(.lt .v2 .v1),(.sb .v0 .v1 .k1)] (.lt .v0 .v1) (.s (.d 11001) (.d 11101)) rfl c (sub_ax _ _))) (f4 q q1 q2)
     ·exact hs2 u q (by exact ln2 [(.no (.lt .v1 .v0))] (.le .v0 .v1) (.d 111) rfl c) (by exact ln4 [(.lt .v0 (.a .v2 .v3)),(.le (.a .v2 .v3) .v1)] (.le .v0 .v1) (.d 1111) rfl u2 q1) q2
    refine ⟨?_,by rw [hfail];rfl⟩
    rw [earr]
    refine h _ ⟨?_,hS.kind.trans hA.kind,hfail⟩ hS.pend (fun t ht=>?_) fun p q p1 pq q1=>?_
    ·exact (over_perm (by exact ln5 [(.eq .v2 (.a .v0 .v4)),(.le .v1 .v4)] (.le (.a .v0 .v1) (.a .v2 .v3)) (.d 11011) rfl hsb hkn) (by exact ln5 [(.le (.a .v0 .v3) .v4),(.eq .v2 .v4),(.le .v1 .v3)] (.le (.a .v0 .v1) .v2) (.d 111011) rfl hsz hz hmn) hp).trans hA.perm
    ·show (over (arrOf st) (sa + k) r.toList.zipIdx)[t]? = _
     rw [over_get (sa + k) r.toList 0 (arrOf st) (by exact lin [(.eq .v4 (.a .v0 .v5)),(.le (.a .v4 .v6) .v7),(.eq .v3 .v7),(.le .v1 .v5),(.le .v8 .v6),(.eq .v2 .v9),(.sb .v9 (.a .v4 .v8) (.a .v0 .v1))] (.le (.a (.a (.a .v0 .v1) .k0) .v2) .v3) (.s (.d 1100101011001) (.d 1101101111001)) rfl [_,_,_,_,_,_,_,_,_,_] [] hsb hsz hz hkn hmn hlen (sub_ax _ _)),if_neg (by exact lin [(.le .v4 .v5),(.eq .v3 .v6),(.or (.lt .v2 .v0) (.le (.a .v7 .v5) .v2)),(.sb .v6 (.a .v7 .v4) (.a .v0 .v1))] (.no (.an (.le (.a (.a .v0 .v1) .k0) .v2) (.lt .v2 (.a (.a (.a .v0 .v1) .k0) .v3)))) (.s (.s (.d 1100001) (.d 111010001)) (.s (.d 101110101) (.d 111010001))) rfl [_,_,_,_,_,_,_,_] [] hmn hlen ht (sub_ax _ _))]
    ·show T3.le (KS key (over (arrOf st) (sa + k) r.toList.zipIdx) p) (KS key (over (arrOf st) (sa + k) r.toList.zipIdx) q)=true
     rw [hget p,hget q]
     by_cases cp:sa + k≤p∧p < sb + m
     ·rw [if_pos cp]
      by_cases cq:sa + k≤q∧q < sb + m
      ·rw [if_pos cq]
       have h1':p - (sa + k) < r.toList.length:=by exact lin [(.eq .v1 .v2),(.an (.le (.a .v3 .v4) .v5) (.lt .v5 (.a .v6 .v7))),(.sb .v2 (.a .v6 .v7) (.a .v3 .v4)),(.sb .v0 .v5 (.a .v3 .v4))] (.lt .v0 .v1) (.s (.s (.d 11010100101) (.d 11011100101)) (.s (.d 1000111) (.d 1000111))) rfl [_,_,_,_,_,_,_,_] [] hlen cp (sub_ax _ _) (sub_ax _ _)
       have h2':q - (sa + k) < r.toList.length:=by exact lin [(.eq .v1 .v2),(.an (.le (.a .v3 .v4) .v5) (.lt .v5 (.a .v6 .v7))),(.sb .v2 (.a .v6 .v7) (.a .v3 .v4)),(.sb .v0 .v5 (.a .v3 .v4))] (.lt .v0 .v1) (.s (.s (.d 11010100101) (.d 11011100101)) (.s (.d 1000111) (.d 1000111))) rfl [_,_,_,_,_,_,_,_] [] hlen cq (sub_ax _ _) (sub_ax _ _)
       rw [List.getElem?_eq_getElem h1',List.getElem?_eq_getElem h2']
       have:=srt_le hR.2 (i:=p - (sa + k)) (j:=q - (sa + k)) (by simpa using h1') (by simpa using h2') (by exact ln6 [(.le .v2 .v3),(.sb .v1 .v3 (.a .v4 .v5)),(.sb .v0 .v2 (.a .v4 .v5))] (.le .v0 .v1) (.s (.s (.d 11100101) (.d 11010101)) (.s (.d 11110101) (.d 11000101))) rfl pq (sub_ax _ _) (sub_ax _ _))
       simpa using this
      ·rw [if_neg cq]
       refine rEAA (fun u u1 u2 u3=>?_) (hr p cp.1 cp.2)
       rw [u3];exact high u q u1 u2 (by exact ln6 [(.le .v3 .v2),(.an (.le (.a .v4 .v5) .v3) (.lt .v3 (.a .v0 .v1))),(.no (.an (.le (.a .v4 .v5) .v2) (.lt .v2 (.a .v0 .v1))))] (.le (.a .v0 .v1) .v2) (.s (.d 101101) (.d 110001)) rfl pq cp cq) q1
     ·rw [if_neg cp]
      by_cases cq:sa + k≤q∧q < sb + m
      ·rw [if_pos cq]
       refine rEAA (fun u u1 u2 u3=>?_) (hr q cq.1 cq.2)
       rw [u3];exact low p u p1 (by exact ln6 [(.le .v0 .v3),(.an (.le (.a .v1 .v2) .v3) (.lt .v3 (.a .v4 .v5))),(.no (.an (.le (.a .v1 .v2) .v0) (.lt .v0 (.a .v4 .v5))))] (.lt .v0 (.a .v1 .v2)) (.s (.d 110001) (.d 101011)) rfl pq cq cp) u1 u2
      ·rw [if_neg cq]
       by_cases c1:q < sb
       ·exact hs1 p q p1 pq c1
       ·by_cases c2:sb≤p
        ·exact hs2 p q c2 pq q1
        ·exact le3_trans (low p sb p1 (by exact ln5 [(.no (.le .v3 .v0)),(.no (.an (.le (.a .v1 .v2) .v0) (.lt .v0 (.a .v3 .v4))))] (.lt .v0 (.a .v1 .v2)) (.s (.d 1101) (.d 1011)) rfl c2 cp) (by exact ln4 [(.eq .v2 (.a .v0 .v3)),(.le .v1 .v3)] (.le (.a .v0 .v1) .v2) (.d 11011) rfl hsb hkn) (by exact ln2 [(.no (.eq .v1 .k0))] (.lt .v0 (.a .v0 .v1)) (.s (.d 101) (.d 111)) rfl hm0)) (hs2 sb q (Nat.le_refl _) (by exact ln2 [(.no (.lt .v1 .v0))] (.le .v0 .v1) (.d 111) rfl c1) q1)
   by_cases hc:na - k≤m
   ·rw [if_pos hc]
    refine wpS_bind (wpS_mergeLo T (zy.trans hm1) fun r st' hS hR=>?_)
    refine rA (fun q1 q2=>?_) (fin r st' hS hR)
    refine wpS_bind (wpS_modify (wpS_bind (wpS_get (wpS_pure ?_))))
    rw [show (failedOf (setArr st' (over (arrOf st') (sa + k) r.toList.zipIdx))).isNone=true from q2]
    exact q1
   ·rw [if_neg hc]
    refine wpS_bind (wpS_mergeHi T (zy.trans hm1) fun r st' hS hR=>?_)
    refine rA (fun q1 q2=>?_) (fin r st' hS hR)
    refine wpS_bind (wpS_modify (wpS_bind (wpS_get (wpS_pure ?_))))
    rw [show (failedOf (setArr st' (over (arrOf st') (sa + k) r.toList.zipIdx))).isNone=true from q2]
    exact q1
end
noncomputable def Runs (N:Nat) (key:Keyed→T3) (xs:Array Keyed):Nat→List (Nat×Nat×Nat)→Nat→Prop
 | b,[],e=>b=e
 | b,r::l,e=>r.1=b∧(1≤r.2.1∧(b≠0→b + 1=N∧r.2.1=1))∧SegS key xs b (b + r.2.1)∧Runs N key xs (b + r.2.1) l e
section
variable {N:Nat}{key:Keyed→T3}{xs ys:Array Keyed}
theorem SegS.congr {i j:Nat} (h:SegS key xs i j) (he:∀k:Nat,i≤k→k < j→ys[k]? = xs[k]?):SegS key ys i j:=fun p q h1 h2 h3=>by
 rw [KS_congr (he p h1 (by exact ln3 [(.le .v0 .v2),(.lt .v2 .v1)] (.lt .v0 .v1) (.d 1111) rfl h2 h3)),KS_congr (he q (by exact ln3 [(.le .v0 .v2),(.le .v2 .v1)] (.le .v0 .v1) (.d 1111) rfl h1 h2) h3)];exact h p q h1 h2 h3
theorem Runs.le:∀{l:List (Nat×Nat×Nat)}{b e:Nat},Runs N key xs b l e→b + l.length≤e
 | [],b,e,h=>by have:b=e:=h;simp;exact ln2 [(.eq .v0 .v1)] (.le .v0 .v1) (.d 111) rfl this
 | r::l,b,e,h=>by revert h;refine rAAA fun u0_ h2 u2_ h4=>?_;have:=Runs.le h4;simp;lia
theorem Runs.congr:∀{l:List (Nat×Nat×Nat)}{b e:Nat},Runs N key xs b l e→(∀k:Nat,b≤k→k < e→ys[k]? = xs[k]?)→Runs N key ys b l e
 | [],b,e,h,_=>h
 | r::l,b,e,h,he=>by
  revert h;refine rAAA fun h1 h2 h3 h4=>?_
  have:=Runs.le h4
  exact ⟨h1,h2,h3.congr fun k a1 a2=>he k a1 (by exact ln5 [(.le (.a (.a .v2 .v3) .v4) .v1),(.lt .v0 (.a .v2 .v3))] (.lt .v0 .v1) (.d 1111) rfl this a2),Runs.congr h4 fun k a1 a2=>he k (by exact ln3 [(.le (.a .v0 .v2) .v1)] (.le .v0 .v1) (.d 111) rfl a1) a2⟩
theorem Runs.snoc:∀{l:List (Nat×Nat×Nat)}{b e n w:Nat},Runs N key xs b l e→1≤n→(e≠0→e + 1=N∧n=1)→SegS key xs e (e + n)→Runs N key xs b (l++[(e,n,w)]) (e + n)
 | [],b,e,n,w,h,hn,h0,hs=>by have h:b=e:=h;subst h;exact ⟨rfl,⟨hn,h0⟩,hs,rfl⟩
 | r::l,b,e,n,w,h,hn,h0,hs=>by
  revert h;refine rAAA fun h1 h2 h3 h4=>?_
  exact ⟨h1,h2,h3,Runs.snoc h4 hn h0 hs⟩
theorem Runs.pair {l1:List (Nat×Nat×Nat)}{e:Nat}{r1 r2:Nat×Nat×Nat}{l2:List (Nat×Nat×Nat)} (he:e≤N) (h:Runs N key xs 0 (l1++r1::r2::l2) e):l1=[]∧l2=[]∧r1.1=0∧1≤r1.2.1∧r2.2.1=1∧r2.1=r1.1 + r1.2.1∧r2.1 + r2.2.1=e∧e=N∧SegS key xs r1.1 r2.1∧SegS key xs r2.1 (r2.1 + r2.2.1):=by
 cases l1 with
 | cons r l1=>
  revert h;refine rAAA fun h1 hO1 u2_ h4=>?_;revert hO1;refine rA fun h2 u1_=>?_
  have hle:=Runs.le h4
  cases l1 with
  | nil=>
   revert h4;refine rAAA fun g1 hO1 u2_ g5=>?_;revert hO1;refine rA fun g2 g3=>?_
   revert g5;refine rAAA fun k1 hO1 u2_ k5=>?_;revert hO1;refine rA fun k2 k3=>?_
   have a1:=g3 (by exact ln1 [(.le .k1 .v0)] (.no (.eq (.a .k0 .v0) .k0)) (.d 1101) rfl h2)
   have a2:=k3 (by exact ln2 [(.le .k1 .v1)] (.no (.eq (.a (.a .k0 .v0) .v1) .k0)) (.d 1101) rfl g2)
   lia
  | cons r' l1=>
   revert h4;refine rAAA fun g1 hO1 u2_ g5=>?_;revert hO1;refine rA fun g2 g3=>?_
   have a1:=g3 (by exact ln1 [(.le .k1 .v0)] (.no (.eq (.a .k0 .v0) .k0)) (.d 1101) rfl h2)
   have:=Runs.le g5
   simp at this
   lia
 | nil=>
  revert h;refine rAAAAAA fun h1 hO1 h3 h4 hO4 h7 h8=>?_;revert hO1;refine rA fun h2 u1_=>?_;revert hO4;refine rA fun h5 h6=>?_
  have a1:=h6 (by exact ln1 [(.le .k1 .v0)] (.no (.eq (.a .k0 .v0) .k0)) (.d 1101) rfl h2)
  have hle:=Runs.le h8
  have hl2:l2=[]:=by
   cases l2 with
   | nil=>rfl
   | cons _ _=>simp at hle;lia
  subst hl2
  have h8:0 + r1.2.1 + r2.2.1=e:=h8
  refine ⟨rfl,rfl,h1,h2,a1.2,by exact ln3 [(.eq .v1 .k0),(.eq .v0 (.a .k0 .v2))] (.eq .v0 (.a .v1 .v2)) (.s (.d 111001) (.d 11011)) rfl h1 h4,by exact ln4 [(.eq .v0 (.a .k0 .v3)),(.eq (.a (.a .k0 .v3) .v1) .v2)] (.eq (.a .v0 .v1) .v2) (.s (.d 110101) (.d 11101)) rfl h4 h8,by exact ln4 [(.an (.eq (.a (.a .k0 .v2) .k1) .v1) (.eq .v3 .k1)),(.eq (.a (.a .k0 .v2) .v3) .v0)] (.eq .v0 .v1) (.s (.d 1101011) (.d 11101001)) rfl a1 h8,?_,?_⟩
  ·rw [h1,h4];exact h3
  ·rw [h4];exact h7
theorem Runs.last:∀{l:List (Nat×Nat×Nat)}{b e n:Nat}{f:Nat×Nat×Nat→Nat×Nat×Nat},(∀r,(f r).1=r.1∧(f r).2.1=r.2.1)→Runs N key xs b l e→Runs N key xs b (l.modify n f) e
 | [],b,e,n,f,hf,h=>by simpa using h
 | r::l,b,e,0,f,hf,h=>by
  revert h;refine rAAA fun h1 h2 h3 h4=>?_
  rw [List.modify_zero_cons]
  refine ⟨(hf r).1.trans h1,by rw [(hf r).2];exact h2,by rw [(hf r).2];exact h3,by rw [(hf r).2];exact h4⟩
 | r::l,b,e,n + 1,f,hf,h=>by
  revert h;refine rAAA fun h1 h2 h3 h4=>?_
  rw [List.modify_succ_cons]
  exact ⟨h1,h2,h3,Runs.last hf h4⟩
end
theorem pend_split {p : Array (Nat × Nat × Nat)} {i : Nat} (h : i + 1 < p.size) : ∃ r1 r2, p[i]? = some r1 ∧ p[i + 1]? = some r2 ∧ p.toList = p.toList.take i ++ r1 :: r2 :: p.toList.drop (i + 2) ∧
  ∀v,((p.setIfInBounds i v).eraseIdxIfInBounds (i + 1)).toList=p.toList.take i++v::p.toList.drop (i + 2):=by
 have hl:i + 1 < p.toList.length:=by simpa using h
 refine ⟨p[i],p[i + 1],getElem?_pos p i (by exact ln2 [(.lt (.a .v0 .k1) .v1)] (.lt .v0 .v1) (.d 111) rfl h),getElem?_pos p (i + 1) h,?_,fun v=>?_⟩
 ·have e1:p.toList.drop i=p[i]::p.toList.drop (i + 1):=by rw [List.drop_eq_getElem_cons (by lia)];simp
  have e2:p.toList.drop (i + 1)=p[i + 1]::p.toList.drop (i + 2):=by rw [List.drop_eq_getElem_cons hl];simp
  conv=>lhs;rw [← List.take_append_drop i p.toList]
  rw [e1,e2]
 ·have hs:i + 1 < (p.setIfInBounds i v).size:=by simpa using h
  simp only [Array.eraseIdxIfInBounds,hs,dif_pos]
  rw [Array.toList_eraseIdx,Array.toList_setIfInBounds]
  rw [List.eraseIdx_eq_take_drop_succ,List.take_set,List.drop_set_of_lt (by exact ln1 [] (.lt .v0 (.a (.a .v0 .k1) .k1)) (.d 11) rfl)]
  rw [List.take_add_one,List.getElem?_eq_getElem (by exact ln2 [(.lt (.a .v0 .k1) .v1)] (.lt .v0 .v1) (.d 111) rfl h)]
  simp only [Option.toList_some]
  rw [List.set_append_right _ _ (by simp;exact ln3 [(.mi .v0 .v1 .v2)] (.le .v0 .v1) (.s (.d 1101) (.d 1111)) rfl (min_ax _ _))]
  simp only [List.length_take,Array.length_toList]
  rw [show i - min i p.size=0 by exact ln4 [(.lt (.a .v1 .k1) .v2),(.sb .v0 .v1 .v3),(.mi .v3 .v1 .v2)] (.eq .v0 .k0) (.s (.s (.s (.d 110101) (.d 110101)) (.s (.d 110001) (.d 110001))) (.s (.s (.d 110010001) (.d 1010001)) (.s (.d 11001) (.d 11001)))) rfl h (sub_ax _ _) (min_ax _ _)]
  simp
section
variable {prog:Program}{w:World}{A:Around}{E:Value→Shared→Prop}{s:Shared}{a₀:Array Keyed}{κ:SortKind}{key:Keyed→T3}
theorem wpS_runs {st : SortSt} {i e : Nat} {Q : Bool → SortSt → Prop} (H : LtOK prog w A E s κ a₀ key) (hA : SA a₀ κ st) (hR : Runs a₀.size key (arrOf st) 0 (pendingOf st).toList e) (he : e ≤ a₀.size) (hi : i + 1 < (pendingOf st).size)
  (h:∀st',SA a₀ κ st'→Runs a₀.size key (arrOf st') 0 (pendingOf st').toList e→(pendingOf st').size + 1=(pendingOf st).size→e=a₀.size→Q true st'):wpS (model prog w) A E s (mergeAt' i) Q st:=by
 refine rEEAAA (fun hO0 hO1 h1 h2 hsp hjoin=>?_) (pend_split hi);obtain ⟨s1,n1,w1⟩:=hO0;obtain ⟨s2,n2,w2⟩:=hO1
 have hR0:=hR
 rw [hsp] at hR0
 refine rAAAAAAAAA (fun t1 t2 g0 g2 g3 g4 g5 g8 g6 g7=>?_) (hR0.pair he)
 dsimp only at g0 g2 g3 g4 g5 g6 g7
 refine wpS_mergeAt H hA h1 h2 g4 g2 (by exact ln1 [(.eq .v0 .k1)] (.le .k1 .v0) (.d 1101) rfl g3) g3 (by exact ln4 [(.le .v3 .v2),(.eq (.a .v0 .v1) .v3)] (.le (.a .v0 .v1) .v2) (.d 1111) rfl he g5) g6 g7 fun st' hA' hp hout hseg=>h st' hA' ?_ ?_ g8
 ·rw [hp,hjoin,t1,t2]
  refine ⟨g0,⟨by show 1≤n1 + n2;exact ln2 [(.eq .v1 .k1)] (.le .k1 (.a .v0 .v1)) (.d 1101) rfl g3,fun h=>absurd rfl h⟩,?_,by show 0 + (n1 + n2)=e;exact ln5 [(.eq .v3 .k0),(.eq .v4 (.a .v3 .v0)),(.eq (.a .v4 .v1) .v2)] (.eq (.a .k0 (.a .v0 .v1)) .v2) (.s (.d 11101001) (.d 1101011)) rfl g0 g4 g5⟩
  show SegS key (arrOf st') 0 (0 + (n1 + n2))
  rw [show 0 + (n1 + n2)=s2 + n2 by exact ln4 [(.eq .v3 .k0),(.eq .v2 (.a .v3 .v0))] (.eq (.a .k0 (.a .v0 .v1)) (.a .v2 .v1)) (.s (.d 11101) (.d 110101)) rfl g0 g4,← g0];exact hseg
 ·have e1:=congrArg List.length (hjoin (s1,n1 + n2,w1))
  have e2:=congrArg List.length hsp
  rw [hp]
  simp only [Array.length_toList,List.length_append,List.length_cons] at e1 e2
  lia
theorem ite_le (c:Prop) [Decidable c] (u:Nat):(if c then u - 1 else u)≤u:=by split <;> lia
noncomputable def runTail (lo n size:Nat):StateT SortSt Sem (ForInStep (Option Unit×Nat)):=do
 let st ← get
 match (pendingOf st).back? with
 | some (s1,n1,_)=>do
  let r ← forIn [0:size] ((none,()):Option Unit×Unit) fun u_ v_=>do
   let st ← get
   match (if (pendingOf st).size > 1 then (pendingOf st)[(pendingOf st).size - 2]? else none) with
   | some (_,_,older)=>
    if older≤power' size (2 * s1 + n1) (2 * s1 + n1 + n1 + n) size then pure (ForInStep.done (none,()))
    else do
     let b ← mergeAt' ((pendingOf st).size - 2)
     if (!b)=true then pure (ForInStep.done (some (),())) else pure (ForInStep.yield (none,()))
   | _=>pure (ForInStep.done (none,()))
  match r.fst with
  | some r=>pure (ForInStep.done (some r,lo))
  | none=>do
   modify fun s=>setPending s ((pendingOf s).modify ((pendingOf s).size - 1) fun x=>(x.fst,x.2.fst,power' size (2 * s1 + n1) (2 * s1 + n1 + n1 + n) size))
   modify fun s=>setPending s ((pendingOf s).push (lo,n,0))
   pure (ForInStep.yield (none,lo + n))
 | _=>do
  modify fun s=>setPending s ((pendingOf s).push (lo,n,0))
  pure (ForInStep.yield (none,lo + n))
theorem wpS_runTail {lo n : Nat} {st : SortSt} {Q : ForInStep (Option Unit × Nat) → SortSt → Prop} (H : LtOK prog w A E s κ a₀ key) (hA : SA a₀ κ st) (hR : Runs a₀.size key (arrOf st) 0 (pendingOf st).toList lo) (hn : 1 ≤ n) (hl0 : lo ≠ 0 → lo + 1 = a₀.size ∧ n = 1) (hln : lo + n ≤ a₀.size) (hs : SegS key (arrOf st) lo (lo + n))
  (h:∀st',SA a₀ κ st'→Runs a₀.size key (arrOf st') 0 (pendingOf st').toList (lo + n)→Q (.yield (none,lo + n)) st'):wpS (model prog w) A E s (runTail lo n a₀.size) Q st:=by
 have fin:∀st':SortSt,SA a₀ κ st'→Runs a₀.size key (arrOf st') 0 (pendingOf st').toList lo→SegS key (arrOf st') lo (lo + n)→Q (.yield (none,lo + n)) (setPending st' ((pendingOf st').push (lo,n,0))):=fun st' hA' hR' hs'=>
  h _ ⟨hA'.perm,hA'.kind,hA'.ok⟩ (by show Runs a₀.size key (arrOf st') 0 ((pendingOf st').push (lo,n,0)).toList (lo + n);rw [Array.toList_push];exact hR'.snoc hn hl0 hs')
 unfold runTail
 refine wpS_bind (wpS_get ?_)
 cases hb:(pendingOf st).back? with
 | none=>exact wpS_bind (wpS_modify (wpS_pure (fin st hA hR hs)))
 | some r=>
  refine byC fun hX=>?_;obtain ⟨s1,n1,w1⟩:=r;refine hX ?_;clear hX
  refine wpS_bind (wpS_mono (wpS_forRange (I:=fun u_ c st'=>c=(none,())∧SA a₀ κ st'∧Runs a₀.size key (arrOf st') 0 (pendingOf st').toList lo∧SegS key (arrOf st') lo (lo + n))
   (Q:=fun c st'=>c=(none,())∧SA a₀ κ st'∧Runs a₀.size key (arrOf st') 0 (pendingOf st').toList lo∧SegS key (arrOf st') lo (lo + n)) ?step (fun u_ v_ hh=>hh) ⟨rfl,hA,hR,hs⟩) ?post)
  case post=>
   intro c st' hR2
   revert hR2;refine rAAA fun hO0 hA' hR' hs'=>?_;refine eqS hO0 ?_
   refine wpS_bind (wpS_modify (wpS_bind (wpS_modify (wpS_pure (fin _ ⟨hA'.perm,hA'.kind,hA'.ok⟩ ?_ hs')))))
   show Runs a₀.size key (arrOf st') 0 ((pendingOf st').modify ((pendingOf st').size - 1) _).toList lo
   rw [Array.toList_modify]
   exact Runs.last (fun u_=>⟨rfl,rfl⟩) hR'
  case step=>
   intro x c st' _ hx hR5
   revert hR5;refine rAAA fun hO0 hA' hR' hs'=>?_;refine eqE hO0 ?_
   refine wpS_bind (wpS_get ?_)
   by_cases hp:(pendingOf st').size > 1
   ·rw [if_pos hp,getElem?_pos (pendingOf st') ((pendingOf st').size - 2) (by exact ln2 [(.lt .k1 .v1),(.sb .v0 .v1 (.k 2))] (.lt .v0 .v1) (.s (.d 11001) (.d 11101)) rfl hp (sub_ax _ _))]
    dsimp only
    split
    ·exact wpS_pure ⟨rfl,hA',hR',hs'⟩
    ·refine wpS_bind (wpS_runs H hA' hR' (by exact ln3 [(.le (.a .v0 .v2) .v1)] (.le .v0 .v1) (.d 111) rfl hln) (by exact ln2 [(.lt .k1 .v1),(.sb .v0 .v1 (.k 2))] (.lt (.a .v0 .k1) .v1) (.s (.d 11001) (.d 11101)) rfl hp (sub_ax _ _)) fun st3 hA3 hR3 u_ q=>absurd q (by exact ln3 [(.le .k1 .v2),(.le (.a .v0 .v2) .v1)] (.no (.eq .v0 .v1)) (.d 10111) rfl hn hln))
   ·rw [if_neg hp]
    exact wpS_pure ⟨rfl,hA',hR',hs'⟩
theorem bind_eq {α β:Type}{m m':StateT SortSt Sem α}{f f':α→StateT SortSt Sem β} (h:m=m') (h':f=f'):(m >>= f)=(m' >>= f'):=by rw [h,h']
theorem wpS_congr {α:Type}{m m':StateT SortSt Sem α}{Q:α→SortSt→Prop}{st:SortSt} (e:m=m') (h:wpS (model prog w) A E s m' Q st):wpS (model prog w) A E s m Q st:=e ▸ h
theorem minRun_le:∀(f n r:Nat),r≤1→minRun' f n r≤n + r
 | 0,n,r,_=>Nat.le_refl _
 | f + 1,n,r,h=>by
  rw [minRun'_succ]
  split
  ·exact Nat.le_refl _
  ·have:=minRun_le f (n / 2) (max r (n % 2)) (by lia);lia
theorem minRun_lt {n:Nat} (h:64≤n):minRun' n n 0 + 1≤n:=by
 obtain ⟨f,rfl⟩ : ∃f,n=f + 1:=⟨n - 1,by exact ln2 [(.le (.k 64) .v0),(.sb .v1 .v0 .k1)] (.eq .v0 (.a .v1 .k1)) (.s (.s (.d 11001) (.d 1011)) (.s (.d 110001) (.d 1011))) rfl h (sub_ax _ _)⟩
 rw [minRun'_succ,if_neg (by exact ln1 [(.le (.k 64) (.a .v0 .k1))] (.no (.lt (.a .v0 .k1) (.k 64))) (.d 111) rfl h)]
 have:=minRun_le f ((f + 1) / 2) (max 0 ((f + 1) % 2)) (by lia)
 lia
theorem minRun_small {n:Nat} (h:n < 64) (h1:1≤n):minRun' n n 0=n:=by
 obtain ⟨f,rfl⟩ : ∃f,n=f + 1:=⟨n - 1,by exact ln2 [(.le .k1 .v0),(.sb .v1 .v0 .k1)] (.eq .v0 (.a .v1 .k1)) (.s (.s (.d 11001) (.d 11101)) (.s (.d 110001) (.d 110101))) rfl h1 (sub_ax _ _)⟩
 rw [minRun'_succ,if_pos h]
theorem wpS_sort {st : SortSt} {Q : Unit → SortSt → Prop} (H : LtOK prog w A E s κ a₀ key) (hA : SA a₀ κ st) (hP : pendingOf st = #[]) (hZ : Rise key (arrOf st) a₀.size)
  (h:∀st',SA a₀ κ st'→SegS key (arrOf st') 0 a₀.size→Q () st'):wpS (model prog w) A E s sortRuns' Q st:=by
 rw [sortRuns'_eq]
 refine wpS_bind (wpS_get ?_)
 dsimp only
 rw [hA.size]
 refine wpS_bind (wpS_mono (wpS_forRange (I:=fun x c st'=>∃lo,c=(none,lo)∧SA a₀ κ st'∧Runs a₀.size key (arrOf st') 0 (pendingOf st').toList lo∧lo≤a₀.size∧x≤lo∧((lo=0∧arrOf st'=arrOf st)∨a₀.size≤lo + 1))
  (Q:=fun c st'=>c=(none,a₀.size)∧SA a₀ κ st'∧Runs a₀.size key (arrOf st') 0 (pendingOf st').toList a₀.size) ?step ?fin ⟨0,rfl,hA,by rw [hP];exact rfl,Nat.zero_le _,Nat.le_refl _,.inl ⟨rfl,rfl⟩⟩) ?post)
 case fin=>
  intro c st' hR2
  revert hR2;refine rEAAAAA fun lo hO1 hA' hR hle hx u6_=>?_;refine eqS hO1 ?_
  have:lo=a₀.size:=by exact ln2 [(.le .v0 .v1),(.le .v1 .v0)] (.eq .v0 .v1) (.s (.d 1101) (.d 111)) rfl hle hx
  subst this
  exact ⟨rfl,hA',hR⟩
 case step=>
  intro x c st' _ hx hR5
  revert hR5;refine rEAAAAA fun lo hO1 hA' hR hle hxl hph=>?_;refine eqS hO1 ?_
  dsimp only
  by_cases hge:lo ≥ a₀.size
  ·rw [if_pos hge]
   have:lo=a₀.size:=by exact ln2 [(.le .v0 .v1),(.le .v1 .v0)] (.eq .v0 .v1) (.s (.d 1101) (.d 111)) rfl hle hge
   subst this
   exact wpS_pure ⟨rfl,hA',hR⟩
  ·rw [if_neg hge]
   refine wpS_bind (wpS_count H (by exact ln3 [(.no (.le .v2 .v0)),(.sb .v1 .v2 .v0)] (.le (.a .v0 .v1) .v2) (.s (.d 11001) (.d 1011)) rfl hge (sub_ax _ _)) (by exact ln3 [(.no (.le .v1 .v2)),(.sb .v0 .v1 .v2)] (.le .k1 .v0) (.s (.d 111001) (.d 1011)) rfl hge (sub_ax _ _)) ⟨hA'.perm,hA'.kind,hA'.ok,rfl,fun u_ v_=>rfl⟩ ?_ fun n st2 hB hn1 hn2 hn3 hs=>?_)
   ·rcases hph with ⟨e1,e2⟩ | e
    ·right;subst e1;rw [e2];exact ⟨rfl,hZ⟩
    ·left;exact ln3 [(.no (.le .v1 .v2)),(.le .v1 (.a .v2 .k1)),(.sb .v0 .v1 .v2)] (.eq .v0 .k1) (.s (.s (.d 1110001) (.d 10101)) (.s (.d 110101) (.d 10101))) rfl hge e (sub_ax _ _)
   dsimp only
   have hA2:SA a₀ κ st2:=⟨hB.perm,hB.kind,hB.ok⟩
   have hR2:Runs a₀.size key (arrOf st2) 0 (pendingOf st2).toList lo:=by rw [hB.pend];exact hR.congr fun k u_ hk=>hB.out k (.inl hk)
   have hl0:∀n,1≤n→n≤a₀.size - lo→lo≠0→lo + 1=a₀.size∧n=1:=fun n h1 h2 h3=>by
    rcases hph with ⟨e1,_⟩ | e
    ·exact absurd e1 h3
    ·exact ln4 [(.le .k1 .v2),(.le .v2 .v3),(.le .v1 (.a .v0 .k1)),(.sb .v3 .v1 .v0)] (.an (.eq (.a .v0 .k1) .v1) (.eq .v2 .k1)) (.s (.s (.s (.d 11001) (.d 11001)) (.s (.d 1111001) (.d 1011001))) (.s (.s (.d 111) (.d 111)) (.s (.d 1101101) (.d 1101001)))) rfl h1 h2 e (sub_ax _ _)
   by_cases hmr:n < minRun' a₀.size a₀.size 0
   ·rw [if_pos hmr]
    refine wpS_bind (wpS_lift (wpAny_rule ⟨rfl,?_⟩))
    refine wpS_bind (wpS_insert (st0:=st2) H (by exact ln5 [(.no (.le .v2 .v0)),(.mi .v1 .v3 .v4),(.sb .v3 .v2 .v0)] (.le (.a .v0 .v1) .v2) (.s (.s (.d 11001001) (.d 1010001)) (.s (.d 11011001) (.d 1010001))) rfl hge (min_ax _ _) (sub_ax _ _)) (by exact ln4 [(.le .v0 .v2),(.lt .v0 .v3),(.mi .v1 .v2 .v3)] (.le .v0 .v1) (.s (.d 1110001) (.d 1101001)) rfl hn2 hmr (min_ax _ _)) ⟨hA2.perm,hA2.kind,hA2.ok,rfl,fun u_ v_=>rfl⟩ hs fun st3 hB3 hs3 u_=>?_)
    simp only [Bool.not_true,Bool.false_eq_true,if_false]
    have hm1:1≤min (a₀.size - lo) (minRun' a₀.size a₀.size 0):=by exact ln4 [(.le .k1 .v1),(.le .v1 .v2),(.lt .v1 .v3),(.mi .v0 .v2 .v3)] (.le .k1 .v0) (.s (.d 11110001) (.d 11101001)) rfl hn1 hn2 hmr (min_ax _ _)
    refine wpS_congr (m':=runTail lo (min (a₀.size - lo) (minRun' a₀.size a₀.size 0)) a₀.size) (by
     unfold runTail
     refine congrArg (get >>= ·) (funext fun st=>?_)
     cases (pendingOf st).back? with
     | none=>rfl
     | some r=>
      refine byC fun hX=>?_;obtain ⟨s1,n1,w1⟩:=r;refine hX ?_;clear hX
      refine bind_eq ?_ (funext fun r=>?_)
      ·refine congrArg (forIn [0:a₀.size] ((none,()):Option Unit×Unit)) (funext fun x=>funext fun c=>congrArg (get >>= ·) (funext fun st=>?_))
       cases (if (pendingOf st).size > 1 then (pendingOf st)[(pendingOf st).size - 2]? else none) with
       | none=>rfl
       | some r=>rfl
      ·refine byC fun hX=>?_;obtain ⟨r,u⟩:=r;refine hX ?_;clear hX
       cases r <;> rfl) ?_
    refine wpS_runTail H ⟨hB3.perm,hB3.kind,hB3.ok⟩ (by rw [hB3.pend];exact hR2.congr fun k u_ hk=>hB3.out k (.inl hk)) hm1 (hl0 _ hm1 (by exact ln3 [(.mi .v0 .v1 .v2)] (.le .v0 .v1) (.s (.d 1101) (.d 1111)) rfl (min_ax _ _))) (by exact ln5 [(.no (.le .v2 .v0)),(.mi .v1 .v3 .v4),(.sb .v3 .v2 .v0)] (.le (.a .v0 .v1) .v2) (.s (.s (.d 11001001) (.d 1010001)) (.s (.d 11011001) (.d 1010001))) rfl hge (min_ax _ _) (sub_ax _ _)) hs3 fun st4 hA4 hR4=>⟨_,rfl,hA4,hR4,by exact ln5 [(.no (.le .v2 .v0)),(.mi .v1 .v3 .v4),(.sb .v3 .v2 .v0)] (.le (.a .v0 .v1) .v2) (.s (.s (.d 11001001) (.d 1010001)) (.s (.d 11011001) (.d 1010001))) rfl hge (min_ax _ _) (sub_ax _ _),by exact ln3 [(.le .v0 .v1),(.le .k1 .v2)] (.le (.a .v0 .k1) (.a .v1 .v2)) (.d 1111) rfl hxl hm1,.inr ?_⟩
    rcases Nat.lt_or_ge a₀.size 64 with c | c
    ·rw [minRun_small c (by exact ln2 [(.lt .v1 .v0)] (.le .k1 .v0) (.d 111) rfl hx)];exact ln4 [(.mi .v2 .v3 .v0),(.sb .v3 .v0 .v1)] (.le .v0 (.a (.a .v1 .v2) .k1)) (.s (.s (.d 11001001) (.d 11001101)) (.s (.d 11001) (.d 110011))) rfl (min_ax _ _) (sub_ax _ _)
    ·have:=minRun_lt c;lia
   ·rw [if_neg hmr]
    refine wpS_congr (m':=runTail lo n a₀.size) (by
     unfold runTail
     refine congrArg (get >>= ·) (funext fun st=>?_)
     cases (pendingOf st).back? with
     | none=>rfl
     | some r=>
      refine byC fun hX=>?_;obtain ⟨s1,n1,w1⟩:=r;refine hX ?_;clear hX
      refine bind_eq ?_ (funext fun r=>?_)
      ·refine congrArg (forIn [0:a₀.size] ((none,()):Option Unit×Unit)) (funext fun x=>funext fun c=>congrArg (get >>= ·) (funext fun st=>?_))
       cases (if (pendingOf st).size > 1 then (pendingOf st)[(pendingOf st).size - 2]? else none) with
       | none=>rfl
       | some r=>rfl
      ·refine byC fun hX=>?_;obtain ⟨r,u⟩:=r;refine hX ?_;clear hX
       cases r <;> rfl) ?_
    exact wpS_runTail H hA2 hR2 hn1 (hl0 _ hn1 hn2) (by exact ln4 [(.no (.le .v2 .v0)),(.le .v1 .v3),(.sb .v3 .v2 .v0)] (.le (.a .v0 .v1) .v2) (.s (.d 110101) (.d 10101)) rfl hge hn2 (sub_ax _ _)) hs fun st4 hA4 hR4=>⟨_,rfl,hA4,hR4,by exact ln4 [(.no (.le .v2 .v0)),(.le .v1 .v3),(.sb .v3 .v2 .v0)] (.le (.a .v0 .v1) .v2) (.s (.d 110101) (.d 10101)) rfl hge hn2 (sub_ax _ _),by exact ln3 [(.le .v0 .v1),(.le .k1 .v2)] (.le (.a .v0 .k1) (.a .v1 .v2)) (.d 1111) rfl hxl hn1,.inr (by exact ln4 [(.le .v3 (.a .v2 .k1)),(.sb .v3 .v0 .v1)] (.le .v0 (.a (.a .v1 .v2) .k1)) (.s (.d 111001) (.d 111101)) rfl hn3 (sub_ax _ _))⟩
 case post=>
  intro c st' hR2
  revert hR2;refine rAA fun hO0 hA' hR=>?_;refine eqS hO0 ?_
  dsimp only
  have hle:=hR.le
  refine wpS_bind (wpS_mono (wpS_forRange (I:=fun x c st''=>c=(none,())∧SA a₀ κ st''∧Runs a₀.size key (arrOf st'') 0 (pendingOf st'').toList a₀.size∧(pendingOf st'').size≤max 1 (a₀.size - x))
   (Q:=fun c st''=>c=(none,())∧SA a₀ κ st''∧Runs a₀.size key (arrOf st'') 0 (pendingOf st'').toList a₀.size∧(pendingOf st'').size≤1) ?_ ?_ ⟨rfl,hA',hR,by simp only [Array.length_toList] at hle;exact ln3 [(.le (.a .k0 .v0) .v2),(.mx .v1 .k1 .v2)] (.le .v0 .v1) (.s (.d 111001) (.d 111101)) rfl hle (max_ax _ _)⟩) ?_)
  ·intro x c st'' _ hx hR5
   revert hR5;refine rAAA fun hO0 hA2 hR2 hsz=>?_;refine eqE hO0 ?_
   refine wpS_bind (wpS_get ?_)
   by_cases hp:(pendingOf st'').size≤1
   ·rw [if_pos hp];exact wpS_pure ⟨rfl,hA2,hR2,hp⟩
   ·rw [if_neg hp]
    refine wpS_bind (wpS_runs H hA2 hR2 (Nat.le_refl _) (Nat.lt_of_le_of_lt (Nat.succ_le_succ (ite_le _ _)) (by exact ln2 [(.no (.le .v1 .k1)),(.sb .v0 .v1 (.k 2))] (.lt (.a .v0 .k1) .v1) (.s (.d 11001) (.d 11101)) rfl hp (sub_ax _ _))) fun st3 hA3 hR3 hs3 u_=>?_)
    simp only [Bool.not_true,Bool.false_eq_true,if_false]
    exact wpS_pure ⟨rfl,hA3,hR3,by lia⟩
  ·intro c st'' hR2
   revert hR2;refine rAAA fun hO0 hA2 hR2 hsz=>?_;refine eqE hO0 ?_
   exact ⟨rfl,hA2,hR2,by exact ln4 [(.le .v0 .v1),(.mx .v1 .k1 .v2),(.sb .v2 .v3 .v3)] (.le .v0 .k1) (.s (.s (.d 10010001) (.d 10010001)) (.s (.d 11101) (.d 11101))) rfl hsz (max_ax _ _) (sub_ax _ _)⟩
  ·intro c st'' hR2
   revert hR2;refine rAAA fun hO0 hA2 hR2 hsz=>?_;refine eqS hO0 ?_
   refine wpS_pure (h st'' hA2 ?_)
   have hl:(pendingOf st'').toList.length≤1:=by simpa using hsz
   generalize (pendingOf st'').toList=l at hR2 hl
   cases l with
   | nil=>
    have h0:0=a₀.size:=hR2
    intro p q _ _ hq;lia
   | cons r l=>
    cases l with
    | nil=>
     revert hR2;refine rAAA fun u0_ u1_ g3 g4=>?_
     have g4:0 + r.2.1=a₀.size:=g4
     rw [g4] at g3;exact g3
    | cons _ _=>simp at hl
end
section
variable {prog:Program}{w:World}{A:Around}{E:Value→Shared→Prop}{s:Shared}{κ:SortKind}{key:Keyed→T3}
noncomputable def midHeap (h : Heap) (a : Addr) (vs : List Value) : Heap := ((h.update a (Obj.mapSeq fun u_ => #[])).push (seqObj "tuple" vs.toArray 0)).push (seqObj "list" #[] 0)
theorem list_sort_any {a : Addr} {vs : List Value} {n : Nat} {P : PySem.Fin → Shared → Prop} (ho : s.heap.get? a = some (seqObj "list" vs.toArray n)) (hlen : vs.length ≤ sizeLine)
  (hkk:2≤vs.length→∀Q:SortKind→Shared→Prop,Q κ { s with heap:=midHeap s.heap a vs }→wpAny (model prog w) A (keyKind' vs.toArray) Q E { s with heap:=midHeap s.heap a vs })
  (H:LtOK prog w A E { s with heap:=midHeap s.heap a vs } κ (pairsOf vs) key) (hZ:Rise key (pairsOf vs) (pairsOf vs).size)
  (h:∀r:Array Keyed,r.Perm (pairsOf vs)→SegS key r 0 (pairsOf vs).size→P (.done (.ret .none)) { s with heap:=sortedHeap s.heap a vs (r.map (·.2)) }) :
  wpAny (model prog w) A (Builtin.«list.sort» ⟨[.ref a],[]⟩) P E s:=by
 rw [list_sort_plain]
 have ha:a < s.heap.objs.size:=Heap.lt_size ho
 refine wpAny_bind (listItems_at ho rfl ?_)
 refine wpAny_bind (listUpdate_at ho rfl ?_ (by simpa using hlen) (Nat.zero_le _))
 obtain ⟨e1, ho1⟩ : ∃ e1, (s.heap.update a (Obj.mapSeq fun u_ => #[])).get? a = some (seqObj "list" #[] e1) := ⟨_, get?_update_seq ho (fun u_ => #[])⟩
 refine wpAny_bind (seqEpoch_at ho1 rfl ?_)
 refine wpAny_bind (wpAny_newTuple ?_ (by simpa using hlen))
 refine wpAny_bind (wpAny_newList ?_ (Nat.zero_le _))
 refine wpAny_holding ?_
 have ho6 : (midHeap s.heap a vs).get? a = some (seqObj "list" #[] e1) := by
  unfold midHeap
  rw [Heap.get?_push_ne _ _ _ (by rw [size_push',Heap.size_update];exact Nat.ne_of_lt (Nat.lt_succ_of_lt ha)),Heap.get?_push_ne _ _ _ (by rw [Heap.size_update];exact Nat.ne_of_lt ha)]
  exact ho1
 show wpAny (model prog w) A _ P E { s with heap:=midHeap s.heap a vs }
 dsimp only
 have hsz:vs.toArray.size=vs.length:=by simp
 have hout:∀r:Array Keyed,r.Perm (pairsOf vs)→(r.map (·.2)).size≤sizeLine + 1:=fun r hp=>by
  rw [Array.size_map,hp.size_eq,pairsOf_size];lia
 by_cases h2:vs.toArray.size < 2
 ·rw [if_pos h2,if_pos h2]
  refine wpAny_bind (wpAny_pure ?_)
  rw [StateT.run_pure]
  refine wpAny_bind (wpAny_pure ?_)
  dsimp only
  refine wpAny_bind (seqEpoch_at ho6 rfl ?_)
  refine wpAny_bind (listUpdate_at ho6 rfl ?_ (Nat.zero_le _) (hout (pairsOf vs) (Array.Perm.refl _)))
  simp only [bne_self_eq_false,Bool.false_eq_true,if_false]
  refine wpAny_pure (h (pairsOf vs) (Array.Perm.refl _) fun i j u_ hij hj=>?_)
  have:i=j:=by rw [pairsOf_size] at hj;lia
  subst this;exact le3_refl _
 ·rw [if_neg h2,if_neg h2]
  refine wpAny_bind (hkk (by lia) _ ?_)
  refine wpAny_bind (wpAny_mono (wpS_sort (a₀:=pairsOf vs) (st:=SortSt.mk' κ (vs.toArray.zip vs.toArray) #[] 7 none)
   (Q:=fun u_ st'=>SA (pairsOf vs) κ st'∧SegS key (arrOf st') 0 (pairsOf vs).size) H ⟨Array.Perm.refl _,rfl,rfl⟩ rfl hZ fun st' a1 a2=>⟨a1,a2⟩) ?_ fun u_ v_ e=>e)
  intro hR0 s' hR2
  refine byC fun hX=>?_;obtain ⟨hO0,st'⟩:=hR0;obtain ⟨⟩:=hO0;refine hX ?_;clear hX
  revert hR2;refine rAA fun hO0 hA hs=>?_;refine eqS hO0 ?_
  dsimp only
  refine wpAny_bind (seqEpoch_at ho6 rfl ?_)
  refine wpAny_bind (listUpdate_at ho6 rfl ?_ (Nat.zero_le _) (hout _ hA.perm))
  rw [hA.ok]
  simp only [bne_self_eq_false,Bool.false_eq_true,if_false]
  exact wpAny_pure (h (arrOf st') hA.perm hs)
noncomputable def preHeap (h : Heap) (vs : List Value) : Heap := ((h.push (seqObj "list" #[] 0)).update h.objs.size (Obj.mapSeq (· ++ vs.toArray))).push (seqObj "list" vs.toArray 0)
theorem pre_keep {vs:List Value}{b:Addr}{o:Obj} (q:h.get? b=some o):(preHeap h vs).get? b=some o:=by
 have hlt:b < h.objs.size:=Heap.lt_size q
 have hsz : ((h.push (seqObj "list" #[] 0)).update h.objs.size (Obj.mapSeq (· ++ vs.toArray))).objs.size = h.objs.size + 1 := by rw [Heap.size_update, size_push']
 unfold preHeap
 rw [Heap.get?_push_ne _ _ _ (by rw [hsz];exact Nat.ne_of_lt (Nat.lt_succ_of_lt hlt)),Heap.get?_update_ne _ _ _ _ (Nat.ne_of_lt hlt),Heap.get?_push_ne _ _ _ (Nat.ne_of_lt hlt)]
 exact q
theorem mid_keep {vs:List Value}{b:Addr}{o:Obj} (q:h.get? b=some o):(midHeap (preHeap h vs) (h.objs.size + 1) vs).get? b=some o:=by
 have hlt:b < h.objs.size:=Heap.lt_size q
 unfold midHeap
 refine Heap.get?_push_of_some _ (Heap.get?_push_of_some _ ?_)
 rw [Heap.get?_update_ne _ _ _ _ (Nat.ne_of_lt (Nat.lt_succ_of_lt hlt))]
 exact pre_keep q
theorem sorted_any {l : Addr} {vs : List Value} {Q : Value → Shared → Prop} (hl : s.heap.IsList l vs.toArray) (hlen : vs.length ≤ sizeLine)
  (hkk:2≤vs.length→∀Q:SortKind→Shared→Prop,Q κ { s with heap:=midHeap (preHeap s.heap vs) (s.heap.objs.size + 1) vs }→wpAny (model prog w) A.in1.in1 (keyKind' vs.toArray) Q E { s with heap:=midHeap (preHeap s.heap vs) (s.heap.objs.size + 1) vs })
  (H:LtOK prog w A.in1.in1 E { s with heap:=midHeap (preHeap s.heap vs) (s.heap.objs.size + 1) vs } κ (pairsOf vs) key) (hZ:Rise key (pairsOf vs) (pairsOf vs).size)
  (h:∀r:Array Keyed,r.Perm (pairsOf vs)→SegS key r 0 (pairsOf vs).size→Q (.ref (s.heap.objs.size + 1)) { s with heap:=sortedHeap (preHeap s.heap vs) (s.heap.objs.size + 1) vs (r.map (·.2)) }) :
  wpAny (model prog w) A (call (.builtin "sorted") [.ref l]) Q E s := by
 refine Calls.call_function_entry kind_sorted plain_sorted entry_sorted (args_sorted1 _) ?_
 unfold Builtin.«sorted»
 refine wpAny_bind (m := checkCount "sorted" 1 1 _) (wpAny_pure ?_)
 refine wpAny_bind (collect_list hl ?_ hlen)
 refine wpAny_bind (wpAny_newList ?_ hlen)
 have hsz : ((s.heap.push (seqObj "list" #[] 0)).update s.heap.objs.size (Obj.mapSeq (· ++ vs.toArray))).objs.size = s.heap.objs.size + 1 := by
  rw [Heap.size_update,size_push']
 have hoL : (preHeap s.heap vs).get? (s.heap.objs.size + 1) = some (seqObj "list" vs.toArray 0) := by
  unfold preHeap;rw [← hsz];exact Heap.get?_push_size _ rfl
 show wpAny _ _ _ _ _ { s with heap:=preHeap s.heap vs }
 rw [hsz]
 refine wpAny_bind (wpAny_holding (wpAny_call_entry slot_list_sort ⟨_,hoL,rfl⟩ entry_list_sort (list_sort_any (s:={ s with heap:=preHeap s.heap vs }) hoL hlen hkk H hZ fun r a1 a2=>⟨_,rfl,?_⟩) (args_list_sort _)))
 exact wpAny_pure ⟨_,rfl,h r a1 a2⟩
end
end Mini.Internal
namespace Mini.Internal
open PySem PyProof.Rows PySem.W
variable {ρ ρ' ρ1:List Addr}{σ σ' σ1:H}{s s' s1:Shared}{h h':Heap}{ℓ ℓ':L}
noncomputable def nmOf:Option Value→Int
 | some (.int n _)=>n
 | _=>0
noncomputable def seqKey:PySem.Data→T3
 | .seq xs _=>⟨nmOf xs[0]?,nmOf xs[1]?,nmOf xs[2]?⟩
 | _=>default
noncomputable def kOf (h:Heap):Value→T3
 | .int n _=>⟨n,0,0⟩
 | .ref a=>((h.get? a).map fun o=>seqKey o.data).getD default
 | _=>default
section
variable {prog:Program}{w:World}{A:Around}{E:Value→Shared→Prop}{s:Shared}
theorem lt_of_keyLt {x y:Keyed}{b:Bool}{κ:SortKind} (h:∀(E':Value→Shared→Prop) (Q:Bool→Shared→Prop),Q b s→wpAny (model prog w) A (keyLt' κ x.1 y.1) Q E' s) {st:SortSt}{Q:Option Bool→SortSt→Prop} (hk:kindOf st=κ) (hq:Q (some b) st):wpS (model prog w) A E s (lt' x y) Q st:=by
 rw [lt'_eq]
 refine wpS_bind (wpS_get ?_)
 rw [hk]
 refine wpS_bind (wpS_lift (wpAny_attempt (h _ _ ⟨rfl,?_⟩)))
 exact wpS_pure hq
theorem not_le3 (x y:T3) (b:Bool) (h:b=true↔(x.a < y.a∨(x.a=y.a∧(x.b < y.b∨(x.b=y.b∧x.c < y.c))))):(!T3.le y x)=b:=by
 cases b with
 | true=>rw [lt_nle (h.mp rfl)];rfl
 | false=>rw [nlt_le fun k=>ft (h.mpr k)];rfl
theorem intLt {vs:List Value} (hv:∀v∈vs,∃n t,v=.int n t) (hp:Heap):LtOK prog w A E s oneType' (pairsOf vs) (fun p=>kOf hp p.1):=by
 intro x y hx hy st Q hk hq
 rw [pairsOf_toList] at hx hy
 refine rEE (fun n t ex=>?_) (hv x.1 (List.of_mem_zip hx).1)
 refine rEE (fun m u ey=>?_) (hv y.1 (List.of_mem_zip hy).1)
 refine lt_of_keyLt (b:=decide (n < m)) (fun E' Q' hq'=>?_) hk ?_
 ·rw [ex,ey,keyLt'_oneType];exact oneLt_int hq'
 ·have : (!T3.le (kOf hp y.1) (kOf hp x.1)) = decide (n < m) := by
   rw [ex,ey];refine not_le3 _ _ _ ?_;simp only [kOf,decide_eq_true_eq];omega
  rw [this] at hq;exact hq
theorem tupLt {vs:List Value} (hv:∀v∈vs,∃a n0 n1 n2 t0 t1 t2,v=.ref a∧s.heap.get? a=some (tupObj [.int n0 t0,.int n1 t1,.int n2 t2])):LtOK prog w A E s (tuples' true) (pairsOf vs) (fun p=>kOf s.heap p.1):=by
 intro x y hx hy st Q hk hq
 rw [pairsOf_toList] at hx hy
 refine rEEEEEEEA (fun a n0 n1 n2 t0 t1 t2 ex gx=>?_) (hv x.1 (List.of_mem_zip hx).1)
 refine rEEEEEEEA (fun b m0 m1 m2 u0 u1 u2 ey gy=>?_) (hv y.1 (List.of_mem_zip hy).1)
 have kx:kOf s.heap x.1=⟨n0,n1,n2⟩:=by rw [ex];show ((s.heap.get? a).map fun o=>seqKey o.data).getD default=_;rw [gx];rfl
 have ky:kOf s.heap y.1=⟨m0,m1,m2⟩:=by rw [ey];show ((s.heap.get? b).map fun o=>seqKey o.data).getD default=_;rw [gy];rfl
 dsimp only at hq
 rw [kx,ky] at hq
 refine lt_of_keyLt (b:=!T3.le ⟨m0,m1,m2⟩ ⟨n0,n1,n2⟩) (fun E' Q' hq'=>?_) hk hq
 rw [ex,ey]
 refine kat_lt gx rfl gy rfl ?_
 show KatLex prog w A true false Q' [(.int n0 t0,.int m0 u0),(.int n1 t1,.int m1 u1),(.int n2 t2,.int m2 u2)] 0 s
 refine kat_cons (wpAny_eqBool_int ?_)
 refine kat_go (fun h0=>kat_yes (kat_cons (wpAny_eqBool_int ?_))) (fun h0=>kat_no (oneLt_int ?_))
 ·have h0:n0=m0:=eq_of_beq h0
  refine kat_go (fun h1=>kat_yes (kat_cons (wpAny_eqBool_int ?_))) (fun h1=>kat_no (kat_one _ _ (lt_int ?_)))
  ·have h1:n1=m1:=eq_of_beq h1
   refine kat_go (fun h2=>kat_yes (kat_nil ?_)) (fun h2=>kat_no (kat_one _ _ (lt_int ?_)))
   ·have h2:n2=m2:=eq_of_beq h2
    rw [not_le3 _ _ false (by simp only;simp;omega)] at hq';exact hq'
   ·have h2:n2≠m2:=by intro h;simp [h] at h2
    rw [not_le3 _ _ (decide (n2 < m2)) (by simp only [decide_eq_true_eq];omega)] at hq';exact hq'
  ·have h1:n1≠m1:=by intro h;simp [h] at h1
   rw [not_le3 _ _ (decide (n1 < m1)) (by simp only [decide_eq_true_eq];omega)] at hq';exact hq'
 ·have h0:n0≠m0:=by intro h;simp [h] at h0
  rw [not_le3 _ _ (decide (n0 < m0)) (by simp only [decide_eq_true_eq];omega)] at hq';exact hq'
end
section
variable {K:Kx}{A:Around}
theorem RVs.of_all {f:Value→V}:∀{ws:List Value},(∀w∈ws,RV K ρ h (f w) w)→RVs K ρ h (ws.map f) ws
 | [],_=>.nil
 | w::r,hw=>.cons (hw w List.mem_cons_self) (RVs.of_all fun x hx=>hw x (List.mem_cons_of_mem _ hx))
theorem asInts_inv:∀{l:List V}{is:List Int},asInts l=some is→l=is.map V.int
 | [],is,h=>by refine siE h ?_;rfl
 | v::r,is,h=>by
  cases v with
  | int i=>
   refine rEA (fun js hj hO2=>?_) (Option.map_eq_some_iff.mp (show (asInts r).map (i::·)=some is from h));refine eqE hO2 ?_
   rw [asInts_inv hj];rfl
  | _=>exact nn h
theorem arg3_inv {l:List V}{p:V×V×V} (h:arg3 l=some p):l=[p.1,p.2.1,p.2.2]:=by
 cases l with
 | nil=>exact nn h
 | cons a r=>
  refine rEA (fun q hq hO2=>?_) (Option.map_eq_some_iff.mp (show (arg2 r).map _=some p from h));refine eqE hO2 ?_
  rw [arg2_inv hq]
theorem t3Of_inv {v:V}{t:T3} (h:t3Of v=some t):v=t.v:=by
 refine bind_e (h) fun l h1 h=>?_
 refine bind_e (h) fun p h2 h=>?_
 refine bind_e (h) fun a h3 h=>?_
 refine bind_e (h) fun b h4 h=>?_
 refine rEA (fun c h5 hO2=>?_) (Option.map_eq_some_iff.mp h);refine eqE hO2 ?_
 rw [asTup_inv h1,arg3_inv h2,asInt_inv h3,asInt_inv h4,asInt_inv h5];rfl
theorem t3s_inv:∀{l:List V}{ts:List T3},t3s l=some ts→l=ts.map T3.v
 | [],ts,h=>by refine siE h ?_;rfl
 | v::r,ts,h=>by
  refine bind_e ((show (t3Of v).bind _=some ts from h)) fun t h1 h2=>?_
  refine rEA (fun us hu hO2=>?_) (Option.map_eq_some_iff.mp h2);refine eqE hO2 ?_
  rw [t3s_inv hu,t3Of_inv h1];rfl
theorem out_keys {ws : List Value} {hp : Heap} {r : Array Keyed} (h1 : r.Perm (pairsOf ws)) (h2 : SegS (fun p => kOf hp p.1) r 0 (pairsOf ws).size) :
  (r.map (·.2)).toList.Perm ws∧((r.map (·.2)).toList.map (kOf hp)).Pairwise (fun x y=>T3.le x y=true):=by
 have hp1:r.toList.Perm (ws.zip ws):=by rw [← pairsOf_toList];exact Array.perm_iff_toList_perm.mp h1
 have e1:(ws.zip ws).map (·.2)=ws:=by rw [List.map_snd_zip];exact Nat.le_refl _
 have hm:=hp1.map (·.2)
 rw [e1] at hm
 have hsame:∀p∈r.toList,p.1=p.2:=by
  intro p hpm
  have:=hp1.mem_iff.mp hpm
  refine rE (fun i hO1=>?_) (List.getElem_of_mem this);obtain ⟨hi,rfl⟩:=hO1
  simp
 rw [Array.toList_map]
 refine ⟨hm,?_⟩
 have e2:(r.toList.map (·.2)).map (kOf hp)=r.toList.map fun p=>kOf hp p.1:=by
  rw [List.map_map]
  exact List.map_congr_left fun p hpm=>by simp only [Function.comp];rw [hsame p hpm]
 rw [e2,List.pairwise_iff_getElem]
 intro i j hi hj hij
 simp only [List.length_map,Array.length_toList] at hi hj
 have hsz:(pairsOf ws).size=r.size:=h1.size_eq.symm
 have:=h2 i j (Nat.zero_le _) (Nat.le_of_lt hij) (by exact ln3 [(.lt .v0 .v2),(.eq .v1 .v2)] (.lt .v0 .v1) (.d 11101) rfl hj hsz)
 rw [KS_get hi,KS_get hj] at this
 simpa using this
theorem sh_new (h:Heap) (ws out:List Value):∃n,(sortedHeap (preHeap h ws) (h.objs.size + 1) ws out.toArray).get? (h.objs.size + 1)=some (listObj out n):=by
 have hsz : ((h.push (seqObj "list" #[] 0)).update h.objs.size (Obj.mapSeq (· ++ ws.toArray))).objs.size = h.objs.size + 1 := by
  rw [Heap.size_update,size_push']
 have hoL : (preHeap h ws).get? (h.objs.size + 1) = some (seqObj "list" ws.toArray 0) := by
  unfold preHeap;rw [← hsz];exact Heap.get?_push_size _ rfl
 have h1:=get?_update_seq hoL (fun u_=>#[])
 obtain ⟨e1, h1⟩ : ∃ e1, ((preHeap h ws).update (h.objs.size + 1) (Obj.mapSeq fun u_ => #[])).get? (h.objs.size + 1) = some (seqObj "list" #[] e1) := ⟨_, h1⟩
 have h2 := Heap.get?_push_of_some (seqObj "list" #[] 0) (Heap.get?_push_of_some (seqObj "tuple" ws.toArray 0) h1)
 have h3:=get?_update_seq h2 (fun u_=>out.toArray)
 exact ⟨_,h3⟩
theorem sh_keep {ws:List Value}{out:Array Value}{b:Addr}{o:Obj} (q:h.get? b=some o):(sortedHeap (preHeap h ws) (h.objs.size + 1) ws out).get? b=some o:=by
 have hlt:b < h.objs.size:=Heap.lt_size q
 have:=mid_keep (vs:=ws) q
 unfold sortedHeap
 rw [Heap.get?_update_ne _ _ _ _ (Nat.ne_of_lt (Nat.lt_succ_of_lt hlt))]
 exact this
theorem sort_core {a : Addr} {ws : List Value} {n : Nat} {l l' : List V} (hr : HR K ρ σ s.heap) (ho : s.heap.get? a = some (listObj ws n)) (rv : RVs K ρ s.heap l ws) (hl : l.length ≤ lenMax) (hl' : l'.length ≤ lenMax) {κ : SortKind} {f : Value → V}
  (hkk:2≤ws.length→∀s':Shared,(∀b o,s.heap.get? b=some o→s'.heap.get? b=some o)→∀(Q:SortKind→Shared→Prop) (E:Value→Shared→Prop),Q κ s'→wpAny K.M A.in1.in1 (keyKind' ws.toArray) Q E s')
  (H:∀s':Shared,(∀b o,s.heap.get? b=some o→s'.heap.get? b=some o)→∀E,LtOK K.prog K.w A.in1.in1 E s' κ (pairsOf ws) (fun p=>kOf s'.heap p.1))
  (hZ:∀hp:Heap,(∀b o,s.heap.get? b=some o→hp.get? b=some o)→Rise (fun p=>kOf hp p.1) (pairsOf ws) (pairsOf ws).size)
  (hf:∀w∈ws,RV K ρ s.heap (f w) w)
  (hout:∀(hp:Heap) (out:List Value),(∀b o,s.heap.get? b=some o→hp.get? b=some o)→out.Perm ws→(out.map (kOf hp)).Pairwise (fun x y=>T3.le x y=true)→out.map f=l') :
  TR K A (call (.builtin "sorted") [.ref a]) ρ s (σ ++ [.list l']) fun ρ' cv s' => RV K ρ' s'.heap (.obj σ.length) cv := by
 refine sorted_any (κ:=κ) (key:=fun p=>kOf (midHeap (preHeap s.heap ws) (s.heap.objs.size + 1) ws) p.1) ⟨_,ho,rfl,n,rfl⟩ (list_len rv hl) (fun h2 Q hq=>hkk h2 { s with heap:=midHeap (preHeap s.heap ws) (s.heap.objs.size + 1) ws } (fun b o (e:s.heap.get? b=some o)=>mid_keep (vs:=ws) e) Q _ hq) (H { s with heap:=midHeap (preHeap s.heap ws) (s.heap.objs.size + 1) ws } (fun b o e=>mid_keep (vs:=ws) e) _) (hZ _ fun b o e=>mid_keep (vs:=ws) e) fun r h1 h2=>?_
 refine rA (fun p1 p2=>?_) (out_keys h1 h2)
 have e:=hout _ _ (fun b o e=>mid_keep (vs:=ws) e) p1 p2
 refine rE (fun m hm=>?_) (sh_new s.heap ws (r.map (·.2)).toList)
 rw [Array.toArray_toList] at hm
 have hk:∀b o,s.heap.get? b=some o→(sortedHeap (preHeap s.heap ws) (s.heap.objs.size + 1) ws (r.map (·.2))).get? b=some o:=fun b o q=>sh_keep q
 have hnone:s.heap.get? (s.heap.objs.size + 1)=none:=by
  cases hg:s.heap.get? (s.heap.objs.size + 1) with
  | none=>rfl
  | some o=>exact absurd (Heap.lt_size hg) (Nat.not_lt.mpr (Nat.le_succ _))
 have hrv:RVs K ρ s.heap l' (r.map (·.2)).toList:=by
  rw [← e];exact RVs.of_all fun w hw=>hf w (p1.mem_iff.mp hw)
 refine ⟨ρ++[s.heap.objs.size + 1],Good.alloc (o:=.list l') hr hk hnone ⟨_,m,hm,hrv.mono (List.prefix_append _ _) (fun a vs q=>hk _ _ q),hl'⟩ s.toks,.obj ?_⟩
 rw [List.getElem?_append_right (by rw [hr.len];exact Nat.le_refl _),hr.len];simp
theorem rv_int {i:Int}{w:Value} (r:RV K ρ h (.int i) w):∃t,w=.int i t:=by
 cases r with
 | int _ t=>exact ⟨t,rfl⟩
theorem rv_head {v:V}{l:List V}{ws:List Value} (r:RVs K ρ h (v::l) ws):∃w wr,ws=w::wr∧RV K ρ h v w∧RVs K ρ h l wr:=by
 cases r with
 | cons a b=>exact ⟨_,_,rfl,a,b⟩
theorem rv_nil {ws:List Value} (r:RVs K ρ h [] ws):ws=[]:=by
 cases r with
 | nil=>rfl
theorem rv_tup {l:List V}{w:Value} (r:RV K ρ h (.tup l) w):∃a vs,w=.ref a∧h.get? a=some (tupObj vs)∧RVs K ρ h l vs:=by
 cases r with
 | tup e rs hl=>exact ⟨_,_,rfl,e,rs⟩
theorem rv_three {t:T3}{w:Value} (r:RV K ρ h t.v w):∃a t0 t1 t2,w=.ref a∧h.get? a=some (tupObj [.int t.a t0,.int t.b t1,.int t.c t2]):=by
 refine rEEAA (fun a vs hO2 e q0=>?_) (rv_tup r);refine eqS hO2 ?_
 refine byC fun hX=>?_;refine rEEAA (fun w0 y0 hO2 r0 q1=>?_) (rv_head q0);obtain rfl:=hO2;refine hX ?_;clear hX
 refine byC fun hX=>?_;refine rEEAA (fun w1 y1 hO2 r1 q2=>?_) (rv_head q1);obtain rfl:=hO2;refine hX ?_;clear hX
 refine byC fun hX=>?_;refine rEEAA (fun w2 y2 hO2 r2 q3=>?_) (rv_head q2);obtain rfl:=hO2;refine hX ?_;clear hX
 refine byC fun hX=>?_;refine rE (fun t0 hO1=>?_) (rv_int r0);obtain rfl:=hO1;refine hX ?_;clear hX
 refine byC fun hX=>?_;refine rE (fun t1 hO1=>?_) (rv_int r1);obtain rfl:=hO1;refine hX ?_;clear hX
 refine byC fun hX=>?_;refine rE (fun t2 hO1=>?_) (rv_int r2);obtain rfl:=hO1;refine hX ?_;clear hX
 have e0:=rv_nil q3
 subst e0
 exact ⟨a,t0,t1,t2,rfl,e⟩
theorem rv_tups :∀{ts:List T3}{ws:List Value},RVs K ρ h (ts.map T3.v) ws→(∀w∈ws,∃a n0 n1 n2 t0 t1 t2,w=.ref a∧h.get? a=some (tupObj [.int n0 t0,.int n1 t1,.int n2 t2]))∧∀hp:Heap,(∀b o,h.get? b=some o→hp.get? b=some o)→ws.map (kOf hp)=ts
 | [],ws,r=>by rw [rv_nil r];exact ⟨fun u_ h=>(nomatch h),fun u_ v_=>rfl⟩
 | t::ts,ws,r=>by
  refine rEEAA (fun w wr hO2 r0 rs=>?_) (rv_head r);refine eqS hO2 ?_
  refine rA (fun h1 h2=>?_) (rv_tups rs)
  refine byC fun hX=>?_;refine rEEEEA (fun a t0 t1 t2 hO4 e=>?_) (rv_three r0);obtain rfl:=hO4;refine hX ?_;clear hX
  refine ⟨fun w hw=>?_,fun hp hk=>?_⟩
  ·rcases List.mem_cons.mp hw with rfl | hw
   ·exact ⟨a,_,_,_,t0,t1,t2,rfl,e⟩
   ·exact h1 w hw
  ·rw [List.map_cons,h2 hp hk]
   have:kOf hp (.ref a)=t:=by
    show ((hp.get? a).map fun o=>seqKey o.data).getD default=_
    rw [hk _ _ e];rfl
   rw [this]
theorem kat_of :∀{ws:List Value},(∀w∈ws,∃a n0 n1 n2 t0 t1 t2,w=.ref a∧h.get? a=some (tupObj [.int n0 t0,.int n1 t1,.int n2 t2]))→∃fs:List Value,KatTups h ws fs∧fs.length=ws.length∧∀v∈fs,∃n t,v=.int n t
 | [],_=>⟨[],.nil,rfl,fun u_ h=>(nomatch h)⟩
 | w::r,hw=>by
  refine rEAA (fun fs h1 h2 h3=>?_) (kat_of fun x hx=>hw x (List.mem_cons_of_mem _ hx))
  refine rEEEEEEEA (fun a n0 n1 n2 t0 t1 t2 hO7 e=>?_) (hw w List.mem_cons_self);refine eqS hO7 ?_
  refine ⟨.int n0 t0::fs,.cons e rfl rfl rfl h1,by simp [h2],fun v hv=>?_⟩
  rcases List.mem_cons.mp hv with rfl | hv
  ·exact ⟨_,_,rfl⟩
  ·exact h3 v hv
theorem asc_get:∀{ts:List T3},ascB ts=true→∀(i:Nat) (h:i + 2 < ts.length),T3.le ts[i + 1] ts[i]=false
 | [],_,i,h=>by simp at h
 | [_],_,i,h=>by simp at h
 | x::y::r,h0,i,h=>by
  have h0:((r.isEmpty || !T3.le y x) && ascB (y::r))=true:=h0
  rw [Bool.and_eq_true] at h0
  cases i with
  | zero=>
   have:r.isEmpty=false:=by cases r with
    | nil=>simp at h
    | cons _ _=>rfl
   rw [this,Bool.false_or,Bool.not_eq_true'] at h0
   exact h0.1
  | succ i=>exact asc_get h0.2 i (by simp at h ⊢;exact ln2 [(.lt (.a .v0 .k1) .v1)] (.lt (.a .v0 (.k 2)) (.a .v1 .k1)) (.d 111) rfl h)
theorem rv_ints :∀{is:List Int}{ws:List Value},RVs K ρ h (is.map V.int) ws→(∀w∈ws,∃n t,w=.int n t)∧∀hp,ws.map (kOf hp)=is.map iT
 | [],ws,r=>by rw [r.nilI];exact ⟨fun u_ h=>(nomatch h),fun u_=>rfl⟩
 | i::is,ws,r=>by
  refine byC fun hX=>?_;obtain ⟨w,wr,rfl,r0,rs⟩:=r.consI;refine hX ?_;clear hX
  refine byC fun hX=>?_;obtain ⟨t,rfl⟩:=r0.intI rfl;refine hX ?_;clear hX
  refine byC fun hX=>?_;obtain ⟨h1,h2⟩:=rv_ints rs;refine hX ?_;clear hX
  refine ⟨fun w hw=>?_,fun hp=>?_⟩
  ·rcases List.mem_cons.mp hw with rfl | hw
   ·exact ⟨i,t,rfl⟩
   ·exact h1 w hw
  ·rw [List.map_cons,List.map_cons,h2 hp];rfl
theorem rise_of {ws:List Value}{hp:Heap}{ts:List T3} (e:ws.map (kOf hp)=ts) (h:ascB ts=true):Rise (fun p=>kOf hp p.1) (pairsOf ws) (pairsOf ws).size:=by
 intro i h1 h2
 rw [pairsOf_size] at h2
 have hk:∀j (hj:j < ws.length),KS (fun p:Keyed=>kOf hp p.1) (pairsOf ws) j=ts[j]'(by rw [← e,List.length_map];exact hj):=fun j hj=>by
  subst e
  rw [KS_get (by rw [pairsOf_size];exact hj)]
  simp [pairsOf]
 have hl:ts.length=ws.length:=by rw [← e,List.length_map]
 rw [hk i (by exact ln2 [(.lt (.a .v0 .k1) .v1)] (.lt .v0 .v1) (.d 111) rfl h2),hk (i - 1) (by exact ln3 [(.lt (.a .v2 .k1) .v1),(.sb .v0 .v2 .k1)] (.lt .v0 .v1) (.s (.d 11101) (.d 11101)) rfl h2 (sub_ax _ _))]
 have:=asc_get h (i - 1) (by exact ln4 [(.le .k1 .v2),(.lt (.a .v2 .k1) .v3),(.eq .v1 .v3),(.sb .v0 .v2 .k1)] (.lt (.a .v0 (.k 2)) .v1) (.s (.d 11010101) (.d 11110101)) rfl h1 h2 hl (sub_ax _ _))
 simpa [show i - 1 + 1=i by exact ln2 [(.le .k1 .v1),(.sb .v0 .v1 .k1)] (.eq (.a .v0 .k1) .v1) (.s (.s (.d 110001) (.d 110101)) (.s (.d 11001) (.d 11101))) rfl h1 (sub_ax _ _)] using this
theorem sort_ok:SortOK K A:=by
 intro σ σ' vs v h ρ s cas hr rvs
 refine bind_e (h) fun v0 h0 h=>?_
 refine bind_e (h) fun l' h1 h=>?_
 refine bind_e (h1) fun l hl h1=>?_
 refine rAA (fun hl' e1 e2=>?_) (mkList_inv h)
 subst e1 e2
 rw [arg1_inv h0] at rvs
 cases rvs with
 | cons r0 rs=>
  cases rs
  refine rEEEAAA (fun a ws n hO3 ho rv hll=>?_) (listOf_inv hr hl r0);refine eqS hO3 ?_
  show TR K A (call (.builtin "sorted") [.ref a]) ρ s _ _
  have h1:((asInts l).elim ((t3s l).bind fun ts=>if ascB ts then some ((ts.mergeSort T3.le).map T3.v) else .none) fun is=>if ascB (is.map iT) then some ((is.mergeSort (fun a b=>decide (a≤b))).map .int) else .none)=some l':=h1
  cases hi:asInts l with
  | some is=>
   rw [hi] at h1
   refine ite_e ((show (if ascB (is.map iT) then some ((is.mergeSort (fun a b=>decide (a≤b))).map V.int) else .none)=some l' from h1)) fun hasc h1=>?_
   obtain rfl:=Option.some.inj h1
   cases asInts_inv hi
   refine byC fun hX=>?_;obtain ⟨q1,q2⟩:=rv_ints rv;refine hX ?_;clear hX
   refine sort_core (κ:=oneType') (f:=fun w=>.int (kOf s.heap w).a) hr ho rv hll hl' ?_ (fun s' u_ E=>intLt q1 _) (fun hp hk=>rise_of (q2 hp) hasc) ?_ ?_
   ·intro h2 s' _ Q E hq
    obtain ⟨w1,w2,wr,rfl⟩ : ∃w1 w2 wr,ws=w1::w2::wr:=by
     match ws,h2 with
     | w1::w2::wr,_=>exact ⟨w1,w2,wr,rfl⟩
    rw [keyKind_ints (intsAre_map _ q1)]
    exact wpAny_pure hq
   ·intro w hw;obtain ⟨n,t,rfl⟩:=q1 w hw;exact .int n t
   ·intro hp out hk hperm hpw
    have e0:∀w∈out,(kOf s.heap w)=kOf hp w:=fun w hw=>by obtain ⟨n,t,rfl⟩:=q1 w (hperm.mem_iff.mp hw);rfl
    have e3:out.map (fun w=>V.int (kOf s.heap w).a)=((out.map (kOf hp)).map (·.a)).map V.int:=by
     rw [List.map_map,List.map_map]
     exact List.map_congr_left fun w hw=>by simp only [Function.comp];rw [e0 w hw]
    rw [e3]
    congr 1
    refine List.Perm.eq_of_pairwise (le:=fun x y:Int=>x≤y) (fun a b u_ v_ h1 h2=>Int.le_antisymm h1 h2) ?_ ?_ ?_
    ·rw [List.pairwise_map]
     exact hpw.imp fun {x y} h=>by have:=(le3_iff x y).mp h;lia
    ·have:=List.pairwise_mergeSort (le:=fun a b:Int=>decide (a≤b)) (fun a b c h1 h2=>by simp at *;lia) (fun a b=>by simp;lia) is
     exact this.imp fun h=>by simpa using h
    ·have:=(hperm.map (kOf hp)).map (·.a)
     have ei:(is.map iT).map (·.a)=is:=by rw [List.map_map];exact List.map_id is
     rw [q2 hp,ei] at this
     exact this.trans (List.mergeSort_perm _ _).symm
  | none=>
  rw [hi] at h1
  refine bind_e (h1) fun ts ht h1=>?_
  refine ite_e (h1) fun hasc h1=>?_
  obtain rfl:=Option.some.inj h1
  cases t3s_inv ht
  refine rA (fun q1 q2=>?_) (rv_tups rv)
  refine sort_core (κ:=tuples' true) (f:=fun w=>(kOf s.heap w).v) hr ho rv hll hl' ?_ (fun s' hk E=>tupLt fun w hw=>?_) (fun hp hk=>rise_of (q2 hp hk) hasc) ?_ ?_
  ·intro h2 s' hk Q E hq
   obtain ⟨fs,k1,k2,k3⟩:=kat_of (h:=s'.heap) (ws:=ws) fun w hw=>by
    refine rEEEEEEEA (fun a n0 n1 n2 t0 t1 t2 e g=>?_) (q1 w hw)
    exact ⟨a,n0,n1,n2,t0,t1,t2,e,hk _ _ g⟩
   refine kat_kind (T := .type "int") k1 (by exact ln2 [(.le (.k 2) .v1),(.eq .v0 .v1)] (.lt .k0 .v0) (.l [1, 1, 0, 1]) rfl h2 k2) (fun v hv => ?_) rfl hq
   refine rEE (fun n t hO2=>?_) (k3 v hv);refine eqS hO2 ?_
   exact Looks.of_pure rfl
  ·refine rEEEEEEEA (fun a n0 n1 n2 t0 t1 t2 e g=>?_) (q1 w hw)
   exact ⟨a,n0,n1,n2,t0,t1,t2,e,hk _ _ g⟩
  ·intro w hw
   refine rEEEEEEEA (fun a n0 n1 n2 t0 t1 t2 hO7 g=>?_) (q1 w hw);refine eqS hO7 ?_
   have:kOf s.heap (.ref a)=⟨n0,n1,n2⟩:=by
    show ((s.heap.get? a).map fun o=>seqKey o.data).getD default=_
    rw [g];rfl
   rw [this]
   exact .tup g (.cons (.int _ _) (.cons (.int _ _) (.cons (.int _ _) .nil))) (show 3≤lenMax by decide)
  ·intro hp out hk hperm hpw
   have e0:∀w∈out,(kOf s.heap w)=kOf hp w:=fun w hw=>by
    refine rEEEEEEEA (fun a n0 n1 n2 t0 t1 t2 hO7 g=>?_) (q1 w (hperm.mem_iff.mp hw));refine eqS hO7 ?_
    show ((s.heap.get? a).map fun o=>seqKey o.data).getD default=((hp.get? a).map fun o=>seqKey o.data).getD default
    rw [g,hk _ _ g]
   have e3:out.map (fun w=>(kOf s.heap w).v)=(out.map (kOf hp)).map T3.v:=by
    rw [List.map_map]
    exact List.map_congr_left fun w hw=>by simp only [Function.comp];rw [e0 w hw]
   rw [e3]
   congr 1
   refine List.Perm.eq_of_pairwise (le:=fun x y:T3=>T3.le x y=true) (fun a b u_ v_ h1 h2=>le3_antisymm h1 h2) hpw ?_ ?_
   ·exact List.pairwise_mergeSort (le := T3.le) (fun a b c => le3_trans) (fun a b => by
     cases h:T3.le a b with
     | true=>rfl
     | false=>exact le3_total h) ts
   ·have:=hperm.map (kOf hp)
    rw [q2 hp hk] at this
    exact this.trans (List.mergeSort_perm _ _).symm
end
end Mini.Internal
namespace Mini.Internal
open PySem
variable {ρ ρ' ρ1:List Addr}{σ σ' σ1:H}{s s' s1:Shared}{h h':Heap}{ℓ ℓ':L}
section
variable {C:Cl}{ℓ ℓ' ℓ1:L}{σ σ' σ1 σ2 σ3:H}{v x y:V}{a b e:Ex}{as:Es}{vs:List V}
theorem e_lit:evalE C (.lit v) ℓ σ=some (.ok v,σ):=rfl
theorem e_ty {t:Nat} (h:t < 100:=by decide):evalE C (.ty t) ℓ σ=some (.ok (.ty t),σ):=if_pos h
theorem e_var {i:Nat} (h:ℓ[i]?.join=some v):evalE C (.var i) ℓ σ=some (.ok v,σ):=by show okX (ℓ[i]?.join) σ=_;rw [h];rfl
theorem bok_eq {α β:Type}{p:X α}{f:α→H→X β}{r:α}{s:H} (h:p=some (.ok r,s)):bok p f=f r s:=by rw [h];rfl
theorem e_bin {op:Bop} (ha:evalE C a ℓ σ=some (.ok x,σ1)) (hb:evalE C b ℓ σ1=some (.ok y,σ2)) (h:binop op x y σ2=some (v,σ3)):evalE C (.bin op a b) ℓ σ=some (.ok v,σ3) :=
 (bok_eq ha).trans ((bok_eq hb).trans (by show okH (binop op x y σ2)=_;rw [h];rfl))
theorem e_neg {i:Int} (ha:evalE C a ℓ σ=some (.ok (.int i),σ1)):evalE C (.neg a) ℓ σ=some (.ok (.int (-i)),σ1):=bok_eq ha
theorem e_not {p:Bool} (ha:evalE C a ℓ σ=some (.ok (.bool p),σ1)):evalE C (.not a) ℓ σ=some (.ok (.bool (!p)),σ1):=bok_eq ha
theorem e_andt (ha:evalE C a ℓ σ=some (.ok (.bool true),σ1)) {r:X V} (hb:evalE C b ℓ σ1=r):evalE C (.and a b) ℓ σ=r:=(bok_eq ha).trans hb
theorem e_andf (ha:evalE C a ℓ σ=some (.ok (.bool false),σ1)):evalE C (.and a b) ℓ σ=some (.ok (.bool false),σ1):=bok_eq ha
theorem e_ort (ha:evalE C a ℓ σ=some (.ok (.bool true),σ1)):evalE C (.or a b) ℓ σ=some (.ok (.bool true),σ1):=bok_eq ha
theorem e_orf (ha:evalE C a ℓ σ=some (.ok (.bool false),σ1)) {r:X V} (hb:evalE C b ℓ σ1=r):evalE C (.or a b) ℓ σ=r:=(bok_eq ha).trans hb
theorem e_and {p q:Bool} (ha:evalE C a ℓ σ=some (.ok (.bool p),σ)) (hb:evalE C b ℓ σ=some (.ok (.bool q),σ)):evalE C (.and a b) ℓ σ=some (.ok (.bool (p && q)),σ):=by
 cases p with
 | true=>exact e_andt ha hb
 | false=>exact e_andf ha
theorem e_or {p q:Bool} (ha:evalE C a ℓ σ=some (.ok (.bool p),σ)) (hb:evalE C b ℓ σ=some (.ok (.bool q),σ)):evalE C (.or a b) ℓ σ=some (.ok (.bool (p || q)),σ):=by
 cases p with
 | true=>exact e_ort ha
 | false=>exact e_orf ha hb
theorem e_cmp {op:Cop}{p:Bool} (ha:evalE C a ℓ σ=some (.ok x,σ1)) (hb:evalE C b ℓ σ1=some (.ok y,σ2)) (h:cmpop op x y σ2=some p):evalE C (.cmp a (.one op b)) ℓ σ=some (.ok (.bool p),σ2) :=
 (bok_eq ha).trans ((bok_eq hb).trans (by show okX ((cmpop op x y σ2).map V.bool) σ2=_;rw [h];rfl))
theorem e_cmp2 {op op':Cop}{c:Ex}{z:V}{p q:Bool} (ha:evalE C a ℓ σ=some (.ok x,σ)) (hb:evalE C b ℓ σ=some (.ok y,σ)) (hc:evalE C c ℓ σ=some (.ok z,σ)) (h:cmpop op x y σ=some p) (h':cmpop op' y z σ=some q):evalE C (.cmp a (.more op b (.one op' c))) ℓ σ=some (.ok (.bool (p && q)),σ):=by
 refine (bok_eq ha).trans ((bok_eq hb).trans ?_)
 show (match cmpop op x y σ with
  | some true=>evalCh C y (.one op' c) ℓ σ
  | some false=>some (.ok (.bool false),σ)
  | .none=>.none)=_
 rw [h]
 cases p with
 | false=>rfl
 | true=>exact (bok_eq hc).trans (by show okX ((cmpop op' y z σ).map V.bool) σ=_;rw [h'];rfl)
theorem e_idx (ha:evalE C a ℓ σ=some (.ok x,σ1)) (hb:evalE C b ℓ σ1=some (.ok y,σ2)) (h:getIdx σ2 x y=some v):evalE C (.idx a b) ℓ σ=some (.ok v,σ2) :=
 (bok_eq ha).trans ((bok_eq hb).trans (by show okX (getIdx σ2 x y) σ2=_;rw [h];rfl))
theorem e_tup (hs:evalEs C as ℓ σ=some (.ok vs,σ1)) (hl:Nat.ble vs.length lenMax=true):evalE C (.tup as) ℓ σ=some (.ok (.tup vs),σ1):=(bok_eq hs).trans (if_pos (Nat.le_of_ble_eq_true hl))
theorem e_lst (hs:evalEs C as ℓ σ=some (.ok vs,σ1)) (hl:Nat.ble vs.length lenMax=true):evalE C (.lst as) ℓ σ=some (.ok (.obj σ1.length),σ1++[.list vs]):=(bok_eq hs).trans (by show okH (mkList σ1 vs)=_;unfold mkList;rw [if_pos (Nat.le_of_ble_eq_true hl)];rfl)
theorem e_call {f:Nat}{r:X V} (hs:evalEs C as ℓ σ=some (.ok vs,σ1)) (h:C.call f vs σ1=r):evalE C (.call f as) ℓ σ=r:=(bok_eq hs).trans h
theorem e_blt {f:Blt} (hs:evalEs C as ℓ σ=some (.ok vs,σ1)) (h:bltV f vs σ1=some (v,σ2)):evalE C (.blt f as) ℓ σ=some (.ok v,σ2):=(bok_eq hs).trans (by show okH (bltV f vs σ1)=_;rw [h];rfl)
theorem e_mth {m:Mth}{l:List V} (ha:evalE C a ℓ σ=some (.ok x,σ1)) (hl:listOf σ1 x=some l) (hs:evalEs C as ℓ σ1=some (.ok vs,σ2)) (h:mthV m x vs σ2=some (v,σ3)):evalE C (.mth m a as) ℓ σ=some (.ok v,σ3) :=
 (bok_eq ha).trans (by
  show ((listOf σ1 x).bind fun u_=>bok (evalEs C as ℓ σ1) fun vs σ2=>okH (mthV m x vs σ2))=_
  rw [hl];exact (bok_eq hs).trans (by rw [h];rfl))
theorem e_attr {k:Nat}{p:Nat×List (Nat×V)} (ha:evalE C a ℓ σ=some (.ok x,σ1)) (hp:nsOf σ1 x=some p) (h:p.2.lookup k=some v):evalE C (.attr a k) ℓ σ=some (.ok v,σ1) :=
 (bok_eq ha).trans (by show okX ((nsOf σ1 x).bind fun p=>p.2.lookup k) σ1=_;rw [hp];show okX (p.2.lookup k) σ1=_;rw [h];rfl)
theorem e_ucall {m f:Nat}{r:X V} (ha:evalE C a ℓ σ=some (.ok x,σ1)) (hm:methOf C.pg σ1 x m=some f) (hs:evalEs C as ℓ σ1=some (.ok vs,σ2)) (h:C.call f (x::vs) σ2=r):evalE C (.ucall m a as) ℓ σ=r :=
 (bok_eq ha).trans (by
  show ((methOf C.pg σ1 x m).bind fun f=>bok (evalEs C as ℓ σ1) fun vs σ2=>C.call f (x::vs) σ2)=_
  rw [hm];exact (bok_eq hs).trans h)
theorem e_new {c f:Nat} (hi:C.pg.init c=some f) (h:C.call f [.obj (σ.length + 1)] (σ++[.ns []]++[.inst c σ.length])=some (.ok .none,σ1)):evalE C (.new c .nil) ℓ σ=some (.ok (.obj (σ.length + 1)),σ1):=by
 show ((C.pg.init c).bind fun f=>bok (C.call f [.obj (σ.length + 1)] (σ++[.ns []]++[.inst c σ.length])) fun r σ2=>if r.isNone then some (R.ok (V.obj (σ.length + 1)),σ2) else .none)=_
 rw [hi];exact (bok_eq h).trans rfl
theorem es_nil:evalEs C .nil ℓ σ=some (.ok [],σ):=rfl
theorem es_cons (ha:evalE C a ℓ σ=some (.ok x,σ1)) (hs:evalEs C as ℓ σ1=some (.ok vs,σ2)):evalEs C (.cons a as) ℓ σ=some (.ok (x::vs),σ2):=(bok_eq ha).trans (bok_eq hs)
theorem if_nil:evalIfs C .nil ℓ σ=some (.ok true,σ):=rfl
theorem if_one {p:Bool} (ha:evalE C a ℓ σ=some (.ok (.bool p),σ1)):evalIfs C (.cons a .nil) ℓ σ=some (.ok p,σ1):=(bok_eq ha).trans (by cases p <;> rfl)
theorem noX_eq {α:Type}{p:X α}{r:α}{s:H} (h:p=some (.ok r,s)):noX p=some (.ok r,s):=bok_eq h
theorem callX_of (h:evalE C e ℓ σ=some (.ok v,σ1)):callX C e ℓ σ=some (.ok v,σ1):=by
 cases e with
 | call f as=>exact h
 | _=>exact noX_eq h
theorem argsX_cons (h:callX C a ℓ σ=some (.ok x,σ1)) (hs:argsX C as ℓ σ1=some (.ok vs,σ2)):argsX C (.cons a as) ℓ σ=some (.ok (x::vs),σ2):=by
 show bnd (callX C a ℓ σ) _=_
 rw [h];show bnd (argsX C as ℓ σ1) _=_;rw [hs];rfl
theorem argsX_exc {k:Nat} (h:callX C a ℓ σ=some (.exc k,σ1)):argsX C (.cons a as) ℓ σ=some (.exc k,σ1):=by
 show bnd (callX C a ℓ σ) _=_
 rw [h];rfl
theorem argsX_more {k:Nat} (h:callX C a ℓ σ=some (.ok x,σ1)) (hs:argsX C as ℓ σ1=some (.exc k,σ2)):argsX C (.cons a as) ℓ σ=some (.exc k,σ2):=by
 show bnd (callX C a ℓ σ) _=_
 rw [h];show bnd (argsX C as ℓ σ1) _=_;rw [hs];rfl
theorem argsX_of:∀{as:Es}{ℓ:L}{σ σ1:H}{vs:List V},evalEs C as ℓ σ=some (.ok vs,σ1)→argsX C as ℓ σ=some (.ok vs,σ1)
 | .nil,_,_,_,_,h=>h
 | .cons a as,_,_,_,_,h=>by
  refine bok_e (h) fun x σ2 h1 h2=>?_
  refine bok_e (h2) fun y σ3 h3 h4=>?_
  refine okE h4 ?_
  exact argsX_cons (callX_of h1) (argsX_of h3)
theorem evalX_call {f:Nat}{r:X V} (hs:argsX C as ℓ σ=some (.ok vs,σ1)) (h:C.call f vs σ1=r):evalX C (.call f as) ℓ σ=r:=by
 show bnd (argsX C as ℓ σ) _=_
 rw [hs];exact h
theorem evalX_exc {f k:Nat} (hs:argsX C as ℓ σ=some (.exc k,σ1)):evalX C (.call f as) ℓ σ=some (.exc k,σ1):=by
 show bnd (argsX C as ℓ σ) _=_
 rw [hs];rfl
theorem evalX_of (h:evalE C e ℓ σ=some (.ok v,σ1)):evalX C e ℓ σ=some (.ok v,σ1):=by
 cases e with
 | call f as=>
  refine bok_e (h) fun vs σ2 h1 h2=>?_
  exact evalX_call (argsX_of h1) h2
 | ucall m o as=>exact h
 | _=>exact noX_eq h
theorem bndY_eq' {α:Type}{p:X α}{f:α→H→Y}{r:α}{s:H} (h:p=some (.ok r,s)):bndY p ℓ f=f r s:=by rw [h];rfl
theorem bndY_ex {α:Type}{p:X α}{f:α→H→Y}{k:Nat}{s:H} (h:p=some (.exc k,s)):bndY p ℓ f=some (.exc k,ℓ,s):=by rw [h];rfl
theorem bndY_eq {f:V→H→Y}{s:H} (h:evalE C e ℓ σ=some (.ok v,s)):bndY (evalX C e ℓ σ) ℓ f=f v s:=bndY_eq' (evalX_of h)
theorem bokY_eq {α:Type}{p:X α}{f:α→H→Y}{r:α}{s:H} (h:p=some (.ok r,s)):bokY p f=f r s:=by rw [h];rfl
set_option tactic.hygienic true in
theorem x_aset {o:Ex}{k:Nat}{p:Nat×List (Nat×V)} (h:evalX C e ℓ σ=some (.ok v,σ1)) (ho:evalE C o ℓ σ1=some (.ok x,σ2)) (hp:nsOf σ2 x=some p):exec C (.aset o k e) ℓ σ=some (.next,ℓ,setObj σ2 p.1 (.ns (nsPut p.2 k v))) :=
 (bndY_eq' h).trans ((bokY_eq ho).trans (by
  show (nsOf σ2 x).map (fun p=>(Fl.next,ℓ,setObj σ2 p.1 (.ns (nsPut p.2 k v))))=_
  rw [hp];rfl))
theorem x_asetX {o:Ex}{k c:Nat} (h:evalX C e ℓ σ=some (.exc c,σ1)):exec C (.aset o k e) ℓ σ=some (.exc c,ℓ,σ1):=bndY_ex h
theorem x_retX {c:Nat} (h:evalX C e ℓ σ=some (.exc c,σ1)):exec C (.ret e) ℓ σ=some (.exc c,ℓ,σ1):=bndY_ex h
theorem x_exprX {c:Nat} (h:evalX C e ℓ σ=some (.exc c,σ1)):exec C (.expr e) ℓ σ=some (.exc c,ℓ,σ1):=bndY_ex h
theorem xs_exc {s:St}{t:Ss}{c:Nat} (h:exec C s ℓ σ=some (.exc c,ℓ1,σ1)):execs C (.cons s t) ℓ σ=some (.exc c,ℓ1,σ1):=by
 show seqY (exec C s ℓ σ) _=_
 rw [h];rfl
theorem x_raise {c:Nat}:exec C (.raise c) ℓ σ=some (.exc c,ℓ,σ):=rfl
set_option tactic.hygienic true in
theorem x_asg {i:Nat} (h:evalE C e ℓ σ=some (.ok v,σ1)) (hi:Nat.blt i ℓ.length=true):exec C (.asg (.one i) e) ℓ σ=some (.next,ℓ.set i (some v),σ1) :=
 (bndY_eq h).trans (by show (setL ℓ i v).map _=_;unfold setL;rw [if_pos (show i < ℓ.length from Nat.le_of_ble_eq_true hi)];rfl)
set_option tactic.hygienic true in
theorem x_expr (h:evalE C e ℓ σ=some (.ok v,σ1)):exec C (.expr e) ℓ σ=some (.next,ℓ,σ1):=bndY_eq h
theorem x_ret (h:evalE C e ℓ σ=some (.ok v,σ1)):exec C (.ret e) ℓ σ=some (.ret v,ℓ,σ1):=bndY_eq h
theorem x_ift {s t:Ss}{r:Y} (h:evalE C e ℓ σ=some (.ok (.bool true),σ1)) (hs:execs C s ℓ σ1=r):exec C (.ife e s t) ℓ σ=r:=(bokY_eq h).trans hs
theorem x_iff {s t:Ss}{r:Y} (h:evalE C e ℓ σ=some (.ok (.bool false),σ1)) (hs:execs C t ℓ σ1=r):exec C (.ife e s t) ℓ σ=r:=(bokY_eq h).trans hs
set_option tactic.hygienic true in
theorem xs_nil:execs C .nil ℓ σ=some (.next,ℓ,σ):=rfl
set_option tactic.hygienic true in
theorem xs_cons {s:St}{t:Ss}{r:Y} (h:exec C s ℓ σ=some (.next,ℓ1,σ1)) (hs:execs C t ℓ1 σ1=r):execs C (.cons s t) ℓ σ=r:=by
 show seqY (exec C s ℓ σ) _=r
 rw [h];exact hs
theorem xs_ret {s:St}{t:Ss} (h:exec C s ℓ σ=some (.ret v,ℓ1,σ1)):execs C (.cons s t) ℓ σ=some (.ret v,ℓ1,σ1):=by
 show seqY (exec C s ℓ σ) _=_
 rw [h];rfl
set_option tactic.hygienic true in
theorem xs_one {s:St} (h:exec C s ℓ σ=some (.next,ℓ1,σ1)):execs C (.cons s .nil) ℓ σ=some (.next,ℓ1,σ1):=xs_cons h rfl
theorem xs_brk {s:St}{t:Ss} (h:exec C s ℓ σ=some (.brk,ℓ1,σ1)):execs C (.cons s t) ℓ σ=some (.brk,ℓ1,σ1):=by
 show seqY (exec C s ℓ σ) _=_
 rw [h];rfl
theorem x_brk:exec C .brk ℓ σ=some (.brk,ℓ,σ):=rfl
end
section
variable {i j:Int}{σ:H}
theorem gtT (h:j < i):cmpop .gt (.int i) (.int j) σ=some true:=congrArg some (decide_eq_true h)
theorem gtF (h:¬ j < i):cmpop .gt (.int i) (.int j) σ=some false:=congrArg some (decide_eq_false h)
theorem clT (h:i < j):cmpop .lt (.int i) (.int j) σ=some true:=congrArg some (decide_eq_true h)
theorem clF (h:¬ i < j):cmpop .lt (.int i) (.int j) σ=some false:=congrArg some (decide_eq_false h)
theorem leT (h:i≤j):cmpop .le (.int i) (.int j) σ=some true:=congrArg some (decide_eq_true h)
theorem leF (h:¬ i≤j):cmpop .le (.int i) (.int j) σ=some false:=congrArg some (decide_eq_false h)
theorem geT (h:j≤i):cmpop .ge (.int i) (.int j) σ=some true:=congrArg some (decide_eq_true h)
theorem geF (h:¬ j≤i):cmpop .ge (.int i) (.int j) σ=some false:=congrArg some (decide_eq_false h)
theorem notT {C:Cl}{a:Ex} (ha:evalE C a ℓ σ=some (.ok (.bool true),σ1)):evalE C (.not a) ℓ σ=some (.ok (.bool false),σ1):=e_not ha
theorem notF {C:Cl}{a:Ex} (ha:evalE C a ℓ σ=some (.ok (.bool false),σ1)):evalE C (.not a) ℓ σ=some (.ok (.bool true),σ1):=e_not ha
end
@[simp] theorem bin_add (x y:Int) (σ:H):binop .add (.int x) (.int y) σ=some (.int (x + y),σ):=rfl
@[simp] theorem bin_sub (x y:Int) (σ:H):binop .sub (.int x) (.int y) σ=some (.int (x - y),σ):=rfl
theorem bin_mul {x y:Int} (h:mulOK x y) (σ:H):binop .mul (.int x) (.int y) σ=some (.int (x * y),σ):=by simp only [binop,asInt,arith,if_pos h,Option.bind_some,Option.map_some]
@[simp] theorem bin_fdiv {x y:Int} (h:y≠0∧y.natAbs < 2 ^ 256) (σ:H):binop .fdiv (.int x) (.int y) σ=some (.int (x.fdiv y),σ):=by simp only [binop,asInt,arith,if_pos h,Option.bind_some,Option.map_some]
@[simp] theorem bin_mod {x y:Int} (h:y≠0) (σ:H):binop .mod (.int x) (.int y) σ=some (.int (x.fmod y),σ):=by simp only [binop,asInt,arith,if_pos h,Option.bind_some,Option.map_some]
@[simp] theorem bin_pow {x y:Int} (h:0≤y∧y≤256∧x.natAbs < 2 ^ 64) (σ:H):binop .pow (.int x) (.int y) σ=some (.int (x ^ y.toNat),σ):=by simp only [binop,asInt,arith,if_pos h,Option.bind_some,Option.map_some]
theorem bin_cat {m n:Nat}{x y:List V} (h1:listOf σ (.obj m)=some x) (h2:listOf σ (.obj n)=some y):binop .add (.obj m) (.obj n) σ=mkList σ (x++y):=by simp only [binop,if_pos,catV,h1,h2,Option.bind_some]
@[simp] theorem mkList_ok {l:List V} (h:l.length≤lenMax) (σ:H):mkList σ l=some (.obj σ.length,σ++[.list l]):=by simp only [mkList,if_pos h]
theorem listOf_get {n:Nat}{l:List V} (h:σ[n]? = some (.list l)):listOf σ (.obj n)=some l:=by simp only [listOf,h]
theorem items_get {n:Nat}{l:List V} (h:σ[n]? = some (.list l)):items σ (.obj n)=some l:=by simp only [items,h]
@[simp] theorem items_tup (σ:H) (l:List V):items σ (.tup l)=some l:=rfl
@[simp] theorem items_frz (σ:H) (l:List Int):items σ (.frz l)=some (l.map .int):=rfl
@[simp] theorem truth_bool (b:Bool):truth (.bool b)=some b:=rfl
@[simp] theorem truth_none:truth .none=some false:=rfl
@[simp] theorem cmp_le (x y:Int) (σ:H):cmpop .le (.int x) (.int y) σ=some (decide (x≤y)):=rfl
@[simp] theorem cmp_lt (x y:Int) (σ:H):cmpop .lt (.int x) (.int y) σ=some (decide (x < y)):=rfl
@[simp] theorem cmp_gt (x y:Int) (σ:H):cmpop .gt (.int x) (.int y) σ=some (decide (y < x)):=rfl
@[simp] theorem cmp_ge (x y:Int) (σ:H):cmpop .ge (.int x) (.int y) σ=some (decide (y≤x)):=rfl
@[simp] theorem cmp_eq (x y:Int) (σ:H):cmpop .eq (.int x) (.int y) σ=some (decide (x=y)):=rfl
@[simp] theorem cmp_ne (x y:Int) (σ:H):cmpop .ne (.int x) (.int y) σ=some (!decide (x=y)):=rfl
@[simp] theorem cmp_bne (x y:Bool) (σ:H):cmpop .ne (.bool x) (.bool y) σ=some (!(x == y)):=rfl
theorem callF_eq {pg:Pg}{d n:Nat}{F:Fn}{as:List V} (hF:pg.fn n=some F) (hs:startL F as=some ℓ):callF pg (d + 1) n as σ=gc F.mode σ (retX (execs ⟨pg,callF pg d⟩ F.body ℓ σ)):=by
 show (pg.fn n).bind _=_
 rw [hF];show (startL F as).bind _=_;rw [hs];rfl
theorem gc_pure {t:H}{v:V} (h:below σ.length v=true):gc .pure σ (some (.ok v,σ++t))=some (.ok v,σ):=if_pos ⟨List.take_left,h⟩
theorem gc_pure0 {v:V} (h:below σ.length v=true):gc .pure σ (some (.ok v,σ))=some (.ok v,σ):=if_pos ⟨List.take_length,h⟩
@[simp] theorem below_int (n:Nat) (i:Int):below n (.int i)=true:=rfl
@[simp] theorem below_bool (n:Nat) (i:Bool):below n (.bool i)=true:=rfl
@[simp] theorem T3.below_v (n:Nat) (x:T3):below n x.v=true:=rfl
@[simp] theorem len1:1≤lenMax:=by decide
@[simp] theorem len2:2≤lenMax:=by decide
@[simp] theorem len3:3≤lenMax:=by decide
@[simp] theorem len4:4≤lenMax:=by decide
@[simp] theorem asInt_int (x:Int):asInt (.int x)=some x:=rfl
@[simp] theorem asTup_tup (x:List V):asTup (.tup x)=some x:=rfl
@[simp] theorem asBound_int (x:Int):asBound (.int x)=some (some x):=rfl
@[simp] theorem asBound_none:asBound .none=some .none:=rfl
@[simp] theorem listOf_frz (σ:H) (l:List Int):listOf σ (.frz l)=some (l.map .int):=rfl
@[simp] theorem arg1_one (x:V):arg1 [x]=some x:=rfl
@[simp] theorem arg2_two (x y:V):arg2 [x,y]=some (x,y):=rfl
@[simp] theorem tyNo_ty (t:Nat):tyNo (.ty t)=some t:=rfl
@[simp] theorem loN_some (i:Int) (n:Nat):loN (some i) n=clampS i n:=rfl
@[simp] theorem hiN_some (i:Int) (n:Nat):hiN (some i) n=clampS i n:=rfl
@[simp] theorem loN_none (n:Nat):loN .none n=0:=rfl
@[simp] theorem hiN_none (n:Nat):hiN .none n=n:=rfl
theorem lst_at {n:Nat}{l:List V} (h:σ[n]? = some (.list l)):listOf σ (.obj n)=some l:=by
 show (match σ[n]? with | some (.list l)=>some l | _=>Option.none)=_
 rw [h]
theorem gc_new {m:Nat}{l:List V} (h1:σ'.take σ.length=σ) (h2:¬ m < σ.length) (h3:σ'[m]? = some (.list l)) (h4:belows σ.length l=true):gc .fresh σ (some (.ok (.obj m),σ'))=some (.ok (.obj σ.length),σ++[.list l]):=by
 refine (if_pos h1).trans ((if_neg h2).trans ?_)
 rw [lst_at h3];exact if_pos h4
theorem ev_fn0 {pg:Pg}{d n k:Nat}{ps:List Nat}{B:Ss}{as:List V}{v:V} (hF:pg.fn n=some ⟨ps,k,B,.pure⟩) (hs:startL ⟨ps,k,B,.pure⟩ as=some ℓ) (h:execs ⟨pg,callF pg d⟩ B ℓ σ=some (.ret v,ℓ',σ)) (hb:below σ.length v=true):callF pg (d + 1) n as σ=some (.ok v,σ):=by
 rw [callF_eq hF hs];show gc .pure σ (retX (execs ⟨pg,callF pg d⟩ B ℓ σ))=_;rw [h];exact gc_pure0 hb
theorem ev_fn {pg:Pg}{d n k:Nat}{ps:List Nat}{B:Ss}{as:List V}{t:H}{v:V} (hF:pg.fn n=some ⟨ps,k,B,.pure⟩) (hs:startL ⟨ps,k,B,.pure⟩ as=some ℓ) (h:execs ⟨pg,callF pg d⟩ B ℓ σ=some (.ret v,ℓ',σ++t)) (hb:below σ.length v=true):callF pg (d + 1) n as σ=some (.ok v,σ):=by
 rw [callF_eq hF hs];show gc .pure σ (retX (execs ⟨pg,callF pg d⟩ B ℓ σ))=_;rw [h];exact gc_pure hb
theorem ev_law {pg:Pg}{d n k:Nat}{ps:List Nat}{B:Ss}{as:List V}{t:H}{v:V} (hF:pg.fn n=some ⟨ps,k,B,.pure⟩) (hs:startL ⟨ps,k,B,.pure⟩ as=some ℓ) (h:execs ⟨pg,callF pg d⟩ B ℓ []=some (.ret v,ℓ',t)) (hb:below 0 v=true):callF pg (d + 1) n as []=some (.ok v,[]):=ev_fn (σ:=[]) (t:=t) hF hs h hb
set_option tactic.hygienic true in
theorem ev_fnN {pg:Pg}{d n k:Nat}{ps:List Nat}{B:Ss}{as:List V} (hF:pg.fn n=some ⟨ps,k,B,.pure⟩) (hs:startL ⟨ps,k,B,.pure⟩ as=some ℓ) (h:execs ⟨pg,callF pg d⟩ B ℓ σ=some (.next,ℓ',σ)):callF pg (d + 1) n as σ=some (.ok .none,σ):=by
 rw [callF_eq hF hs];show gc .pure σ (retX (execs ⟨pg,callF pg d⟩ B ℓ σ))=_;rw [h];exact gc_pure0 rfl
theorem ev_fnF {pg:Pg}{d n k m:Nat}{ps:List Nat}{B:Ss}{as:List V}{t:H}{l:List V} (hF:pg.fn n=some ⟨ps,k,B,.fresh⟩) (hs:startL ⟨ps,k,B,.fresh⟩ as=some ℓ) (h:execs ⟨pg,callF pg d⟩ B ℓ σ=some (.ret (.obj m),ℓ',σ++t)) (hm:σ.length≤m) (hb:belows σ.length l=true) (ht:(σ++t)[m]? = some (.list l)):callF pg (d + 1) n as σ=some (.ok (.obj σ.length),σ++[.list l]):=by
 have:¬ m < σ.length:=by exact ln2 [(.le .v1 .v0)] (.no (.lt .v0 .v1)) (.d 111) rfl hm
 rw [callF_eq hF hs];show gc .fresh σ (retX (execs ⟨pg,callF pg d⟩ B ℓ σ))=_;rw [h]
 exact gc_new List.take_left this ht hb
noncomputable def S16_0:St:=(.ret (.idx (.bin .add (.slc .v0 (.yes .v1) (.yes (.bin .add .v1 (.i 1))) .no) (.lst (.cons (.i 0) .nil))) (.i 0)))
noncomputable def B16:Ss:=.cons S16_0 <| .nil
noncomputable def S17_0:St:=(.asg (.one 1) (.bin .sub (.bin .mod (.bin .fdiv .v0 (.i 4)) (.i 61)) (.i 30)))
noncomputable def S17_1:St:=(.ife (.cmp (.bin .mod .v0 (.i 4)) (.one .eq (.i 3))) (.cons (.asg (.one 1) (.bin .sub (.bin .mod (.bin .mul (.bin .fdiv .v0 (.i 4)) (.bin .pow (.i 48271) (.i 12))) (.bin .sub (.bin .mul (.i 2) (.bin .pow (.i 10) (.i 60))) (.i 1))) (.bin .sub (.bin .pow (.i 10) (.i 60)) (.i 1)))) .nil) .nil)
noncomputable def S17_2:St:=(.asg (.one 2) (.bin .mod (.bin .fdiv .v0 (.i 244)) (.i 16)))
noncomputable def S17_3:St:=(.ife (.cmp (.bin .mod (.bin .fdiv .v0 (.i 3904)) (.i 8)) (.one .eq (.i 1))) (.cons (.asg (.one 2) (.bin .mod (.bin .mul (.bin .fdiv .v0 (.i 4)) (.bin .pow (.i 69621) (.i 12))) (.bin .pow (.i 10) (.i 60)))) .nil) .nil)
noncomputable def S17_4:St:=(.asg (.one 3) (.bin .sub (.bin .mod (.bin .fdiv .v0 (.i 31232)) (.i 7)) (.i 3)))
noncomputable def S17_5:St:=(.ife (.cmp (.bin .mod (.bin .fdiv .v0 (.i 218624)) (.i 8)) (.one .eq (.i 1))) (.cons (.asg (.one 3) (.bin .sub (.bin .mod (.bin .mul (.bin .fdiv .v0 (.i 4)) (.bin .pow (.i 16807) (.i 14))) (.bin .sub (.bin .mul (.i 2) (.bin .pow (.i 10) (.i 60))) (.i 1))) (.bin .sub (.bin .pow (.i 10) (.i 60)) (.i 1)))) .nil) .nil)
noncomputable def S17_6:St:=(.ret (.tup (.cons .v1 (.cons (.blt .min (.cons (.bin .add .v1 .v2) (.cons (.bin .sub (.bin .pow (.i 10) (.i 60)) (.i 1)) .nil))) (.cons .v3 .nil)))))
noncomputable def B17:Ss:=.cons S17_0 <| .cons S17_1 <| .cons S17_2 <| .cons S17_3 <| .cons S17_4 <| .cons S17_5 <| .cons S17_6 <| .nil
theorem at_slice (l:List Int) (k:Nat):∃r,((l.map V.int).take (clampS ((k:Int) + 1) l.length)).drop (clampS (k:Int) l.length)++[V.int 0]=V.int (l.getD k 0)::r∧r.length≤1:=by
 have h1:clampS ((k:Int) + 1) l.length=min (k + 1) l.length:=by
  unfold clampS;rw [if_neg (by exact ln1 [] (.no (.zlt (.a (.n .v0) .k1) .k0)) (.d 11) rfl)];simp
 have h2:clampS (k:Int) l.length=min k l.length:=by
  unfold clampS;rw [if_neg (by exact ln1 [] (.no (.zlt (.n .v0) .k0)) (.d 11) rfl)];simp
 rw [h1,h2,← List.map_take,← List.map_drop]
 rcases Nat.lt_or_ge k l.length with h | h
 ·have e1:min (k + 1) l.length=k + 1:=by exact ln3 [(.lt .v1 .v2),(.mi .v0 (.a .v1 .k1) .v2)] (.eq .v0 (.a .v1 .k1)) (.s (.s (.d 110001) (.d 111001)) (.s (.d 11001) (.d 11011))) rfl h (min_ax _ _)
  have e2:min k l.length=k:=by exact ln3 [(.lt .v1 .v2),(.mi .v0 .v1 .v2)] (.eq .v0 .v1) (.s (.s (.d 110001) (.d 1011)) (.s (.d 11001) (.d 1011))) rfl h (min_ax _ _)
  rw [e1,e2,List.take_add_one,List.getElem?_eq_getElem h]
  have:(l.take k++[l[k]]).drop k=[l[k]]:=by
   rw [List.drop_append_of_le_length (by simp;exact ln2 [(.eq .v1 .v0)] (.le .v0 .v1) (.d 1101) rfl e2)];simp
  simp only [Option.toList_some,this]
  exact ⟨[V.int 0],by simp [List.getD_eq_getElem?_getD,List.getElem?_eq_getElem h],by simp⟩
 ·have e1:min (k + 1) l.length=l.length:=by exact ln3 [(.le .v1 .v2),(.mi .v0 (.a .v2 .k1) .v1)] (.eq .v0 .v1) (.s (.s (.d 1011) (.d 110001)) (.s (.d 1011) (.d 11001))) rfl h (min_ax _ _)
  have e2:min k l.length=l.length:=by exact ln3 [(.le .v1 .v2),(.mi .v0 .v2 .v1)] (.eq .v0 .v1) (.s (.s (.d 111001) (.d 110001)) (.s (.d 11011) (.d 11001))) rfl h (min_ax _ _)
  rw [e1,e2,List.take_length,List.drop_length]
  refine ⟨[],?_,by simp⟩
  simp [List.getD_eq_getElem?_getD,List.getElem?_eq_none h]
theorem oe_yes {C:Cl}{e:Ex}{r:X V} (h:evalE C e ℓ σ=r):evalOe C (.yes e) ℓ σ=r:=h
theorem oe_no {C:Cl}:evalOe C .no ℓ σ=some (.ok .none,σ):=rfl
theorem ev_at {pg:Pg} (hF:pg.fn 16=some ⟨[0,1],10,B16,.pure⟩) (d:Nat) (l:List Int) (k:Nat) (σ:H):callF pg (d + 1) 16 [.frz l,.int (k:Nat)] σ=some (.ok (.int (l.getD k 0)),σ):=by
 refine rEA (fun r hr hrl=>?_) (at_slice l k)
 rw [callF_eq hF rfl]
 have hlen:(((l.map V.int).take (clampS ((k:Int) + 1) l.length)).drop (clampS (k:Int) l.length)).length≤lenMax:=by
  have:=congrArg List.length hr
  simp only [List.length_append,List.length_cons,List.length_nil] at this
  unfold lenMax;lia
 generalize hx:((l.map V.int).take (clampS ((k:Int) + 1) l.length)).drop (clampS (k:Int) l.length)=x at hr hlen
 have e1:evalE ⟨pg,callF pg d⟩ (Ex.slc (Ex.var 0) (Oe.yes (Ex.var 1)) (Oe.yes (Ex.bin Bop.add (Ex.var 1) (Ex.lit (V.int 1)))) Oe.no) [some (.frz l),some (.int k),none,none,none,none,none,none,none,none] σ=some (.ok (.obj σ.length),σ++[.list x]):=by
  refine (bok_eq (e_var rfl)).trans ((bok_eq (oe_yes (e_var rfl))).trans ((bok_eq (oe_yes (e_bin (e_var rfl) e_lit rfl))).trans ((bok_eq oe_no).trans ?_)))
  simp [okH,okX,sliceV,asTup,sliceL,hx,hlen]
 have hl2:(x++[V.int 0]).length≤lenMax:=by rw [hr];simp;unfold lenMax;exact ln1 [(.le .v0 .k1)] (.le (.a .v0 .k1) (.k 1000000)) (.d 111) rfl hrl
 have e2:binop .add (.obj σ.length) (.obj (σ.length + 1)) (σ++[.list x,.list [.int 0]])=mkList (σ++[.list x,.list [.int 0]]) (x++[.int 0]):=bin_cat (listOf_get (by simp)) (listOf_get (by simp))
 have e3:getIdx (σ++[.list x,.list [.int 0],.list (x++[.int 0])]) (.obj (σ.length + 2)) (.int 0)=some (.int (l.getD k 0)):=by
  have hi:=items_get (σ:=σ++[O.list x,O.list [V.int 0],O.list (x++[V.int 0])]) (n:=σ.length + 2) (l:=x++[.int 0]) (by simp)
  simp only [getIdx,hi,Option.bind_some]
  rw [hr]
  simp [idxN]
 show gc .pure σ (retX (execs ⟨pg,callF pg d⟩ B16 [some (.frz l),some (.int k),none,none,none,none,none,none,none,none] σ))=_
 have:execs ⟨pg,callF pg d⟩ B16 [some (.frz l),some (.int k),none,none,none,none,none,none,none,none] σ=some (.ret (.int (l.getD k 0)),[some (.frz l),some (.int k),none,none,none,none,none,none,none,none],σ++[.list x,.list [.int 0],.list (x++[.int 0])]):=by
  have e4:evalE ⟨pg,callF pg d⟩ (Ex.lst (Es.cons (Ex.lit (V.int 0)) Es.nil)) [some (.frz l),some (.int k),none,none,none,none,none,none,none,none] (σ++[.list x])=some (.ok (.obj (σ.length + 1)),σ++[.list x,.list [.int 0]]):=by rw [e_lst (es_cons e_lit es_nil) rfl];simp
  have e5:binop .add (.obj σ.length) (.obj (σ.length + 1)) (σ++[.list x,.list [.int 0]])=some (.obj (σ.length + 2),σ++[.list x,.list [.int 0],.list (x++[.int 0])]):=by rw [e2,mkList_ok hl2];simp
  exact xs_ret (x_ret (e_idx (e_bin e1 e4 e5) e_lit e3))
 rw [this]
 exact gc_pure rfl
noncomputable def S1_0:St:=(.ife (.or (.not (.blt .isinstance (.cons .v0 (.cons (.ty 0) .nil)))) (.or (.blt .isinstance (.cons .v0 (.cons (.ty 1) .nil))) (.not (.cmp (.neg (.bin .pow (.i 10) (.i 60))) (.more .lt .v0 (.one .lt (.bin .pow (.i 10) (.i 60)))))))) (.cons (.raise 11) .nil) .nil)
noncomputable def B1:Ss:=.cons S1_0 <| .nil
noncomputable def S2_0:St:=(.expr (.call 1 (.cons .v0 .nil)))
noncomputable def S2_1:St:=(.expr (.call 1 (.cons .v1 .nil)))
noncomputable def S2_2:St:=(.ife (.cmp .v0 (.one .gt .v1)) (.cons (.raise 11) .nil) .nil)
noncomputable def B2:Ss:=.cons S2_0 <| .cons S2_1 <| .cons S2_2 <| .nil
noncomputable def S25_0:St:=(.ret (.and (.blt .isinstance (.cons .v0 (.cons (.ty 0) .nil))) (.and (.cmp .v0 (.one .isnot (.lit (.bool true)))) (.cmp .v0 (.one .isnot (.lit (.bool false)))))))
noncomputable def B25:Ss:=.cons S25_0 <| .nil
theorem get_app {t:H}{n:Nat}{o:O} (h:σ[n]? = some o):(σ++t)[n]? = some o:=by
 rw [List.getElem?_append_left];exact h
 exact (List.getElem?_eq_some_iff.mp h).1
@[simp] theorem listOf_last (σ:H) (l:List V):listOf (σ++[.list l]) (.obj σ.length)=some l:=listOf_get (by simp)
@[simp] theorem items_last (σ:H) (l:List V):items (σ++[.list l]) (.obj σ.length)=some l:=items_get (by simp)
@[simp] theorem setObj_last (σ:H) (o o':O):setObj (σ++[o]) σ.length o'=σ++[o']:=by simp [setObj]
theorem app_last {l:List V} (h:l.length < lenMax) (σ:H) (x:V):mthV .append (.obj σ.length) [x] (σ++[.list l])=some (.none,σ++[.list (l++[x])]):=by
 simp [mthV,objNo,appV,h]
theorem compL_go {body:L→H→X (Option V)}{tg:Nat}{keep:H→Prop}{v:V}{r acc:List V}{ℓ1:L}{y:Option V} (hs:setL ℓ tg v=some ℓ1) (hb:body ℓ1 σ=some (.ok y,σ1)) (hk:keep σ1) (hl:acc.length < lenMax):compL body tg keep (v::r) acc ℓ σ=compL body tg keep r (acc++y.toList) ℓ1 σ1:=by
 show (setL ℓ tg v).bind _=_
 rw [hs];exact (bok_eq hb).trans (if_pos ⟨hk,hl⟩)
theorem tg_one {t:Nat}{v:V} (h:t < ℓ.length):setTg (.one t) v ℓ=some (ℓ.set t (some v)):=if_pos h
set_option tactic.hygienic true in
theorem forL_go {body:L→H→Y}{t:Tg}{keep:H→Prop}{v:V}{r:List V}{ℓ1 ℓ2:L}{σ2:H} (hs:setTg t v ℓ=some ℓ1) (hb:body ℓ1 σ=some (.next,ℓ2,σ2)) (hk:keep σ2):forL body t keep (v::r) ℓ σ=forL body t keep r ℓ2 σ2:=by
 show (setTg t v ℓ).bind _=_
 rw [hs];show turnY (body ℓ1 σ) _=_;rw [hb];exact if_pos hk
set_option tactic.hygienic true in
theorem forL_brk {body:L→H→Y}{t:Tg}{keep:H→Prop}{v:V}{r:List V}{ℓ1 ℓ2:L}{σ2:H} (hs:setTg t v ℓ=some ℓ1) (hb:body ℓ1 σ=some (.brk,ℓ2,σ2)):forL body t keep (v::r) ℓ σ=some (.next,ℓ2,σ2):=by
 show (setTg t v ℓ).bind _=_
 rw [hs];show turnY (body ℓ1 σ) _=_;rw [hb];rfl
set_option tactic.hygienic true in
theorem while_go {test:L→H→X V}{body:L→H→Y}{n:Nat}{ℓ2:L}{σ2:H} (ht:test ℓ σ=some (.ok (.bool true),σ1)) (hb:body ℓ σ1=some (.next,ℓ2,σ2)):whileL test body (n + 1) ℓ σ=whileL test body n ℓ2 σ2:=by
 refine (bokY_eq ht).trans ?_
 show turnY (body ℓ σ1) _=_;rw [hb];rfl
theorem while_ret {test:L→H→X V}{body:L→H→Y}{n:Nat}{v:V}{ℓ2:L}{σ2:H} (ht:test ℓ σ=some (.ok (.bool true),σ1)) (hb:body ℓ σ1=some (.ret v,ℓ2,σ2)):whileL test body (n + 1) ℓ σ=some (.ret v,ℓ2,σ2):=by
 refine (bokY_eq ht).trans ?_
 show turnY (body ℓ σ1) _=_;rw [hb];rfl
set_option tactic.hygienic true in
theorem while_end {test:L→H→X V}{body:L→H→Y}{n:Nat} (ht:test ℓ σ=some (.ok (.bool false),σ1)):whileL test body (n + 1) ℓ σ=some (.next,ℓ,σ1):=bokY_eq ht
theorem compL_map {α : Type} {body : L → H → X (Option V)} {tg : Nat} {keep : H → Prop} (g : α → V) (f : α → Option V) (ht : tg < ℓ.length) (hk : keep σ) :
  ∀(xs:List α) (acc:List V) (ℓ':L),ℓ'.length=ℓ.length→(∀v,ℓ'.set tg v=ℓ.set tg v)→acc.length + xs.length≤lenMax→(∀x∈xs,body (ℓ.set tg (some (g x))) σ=some (.ok (f x),σ))→
   compL body tg keep (xs.map g) acc ℓ' σ=some (.ok (acc++xs.filterMap f),σ)
 | [],acc,ℓ',_,_,_,_=>by rw [List.filterMap_nil,List.append_nil];rfl
 | x::r,acc,ℓ',h1,h2,h3,h4=>by
  have hs:setL ℓ' tg (g x)=some (ℓ.set tg (some (g x))):=(if_pos (h1 ▸ ht)).trans (by rw [h2])
  simp only [List.length_cons] at h3
  rw [List.map_cons,compL_go hs (h4 x List.mem_cons_self) hk ( by exact ln3 [(.le (.a .v0 (.a .v2 .k1)) .v1)] (.lt .v0 .v1) (.d 111) rfl h3)]
  cases hf:f x with
  | none=>rw [List.filterMap_cons_none hf,show acc++(none:Option V).toList=acc from List.append_nil _];exact compL_map g f ht hk r acc _ (by simp) (by simp) (by exact ln3 [(.le (.a .v0 (.a .v1 .k1)) .v2)] (.le (.a .v0 .v1) .v2) (.d 111) rfl h3) fun y hy=>h4 y (List.mem_cons_of_mem _ hy)
  | some v=>
   rw [List.filterMap_cons_some hf]
   have:=compL_map g f ht hk r (acc++[v]) (ℓ.set tg (some (g x))) (by simp) (by simp) (by simp;exact ln3 [(.le (.a .v0 (.a .v1 .k1)) .v2)] (.le (.a (.a .v0 .k1) .v1) .v2) (.d 111) rfl h3) fun y hy=>h4 y (List.mem_cons_of_mem _ hy)
   rw [List.append_assoc] at this
   exact this
theorem comp_map {α : Type} {C : Cl} {elt : Ex} {tg : Nat} {it : It} {ifs : Es} {keep : H → Prop} {xs : List α} (g : α → V) (f : α → Option V) (hi : evalIt C it ℓ σ = some (.ok ⟨xs.map g, keep⟩, σ1)) (hk : keep σ1) (ht : tg < ℓ.length) (hl : xs.length ≤ lenMax)
  (hb:∀x∈xs,bok (evalIfs C ifs (ℓ.set tg (some (g x))) σ1) (fun b σ2=>if b then bok (evalE C elt (ℓ.set tg (some (g x))) σ2) fun v σ3=>some (.ok (some v),σ3) else some (.ok .none,σ2))=some (.ok (f x),σ1)) :
  evalE C (.comp elt tg it ifs) ℓ σ=some (.ok (.obj σ1.length),σ1++[.list (xs.filterMap f)]):=by
 refine (bok_eq hi).trans ?_
 rw [compL_map g f ht hk xs [] ℓ rfl (fun u_=>rfl) (by simpa using hl) hb]
 simp
set_option tactic.hygienic true in
theorem for_rel {α : Type} {body : L → H → Y} {t : Nat} {keep : H → Prop} (g : α → V) (I : List α → L → H → Prop) (J : L → H → Prop) (h0 : ∀ ℓ σ, I [] ℓ σ → J ℓ σ)
  (hs:∀x r ℓ σ,I (x::r) ℓ σ→t < ℓ.length∧((∃ℓ2 σ2,body (ℓ.set t (some (g x))) σ=some (.next,ℓ2,σ2)∧keep σ2∧I r ℓ2 σ2)∨∃ℓ2 σ2,body (ℓ.set t (some (g x))) σ=some (.brk,ℓ2,σ2)∧J ℓ2 σ2)) :
  ∀(xs:List α) (ℓ:L) (σ:H),I xs ℓ σ→∃ℓ' σ',forL body (.one t) keep (xs.map g) ℓ σ=some (.next,ℓ',σ')∧J ℓ' σ'
 | [],ℓ,σ,h=>⟨ℓ,σ,rfl,h0 ℓ σ h⟩
 | x::r,ℓ,σ,h=>by
  obtain ⟨ht,h1 | h1⟩:=hs x r ℓ σ h
  ·revert h1;refine rEEAA fun ℓ2 σ2 e k i=>?_
   refine rEEA (fun ℓ' σ' e' j=>?_) (for_rel g I J h0 hs r ℓ2 σ2 i)
   exact ⟨ℓ',σ',(forL_go (tg_one ht) e k).trans e',j⟩
  ·revert h1;refine rEEA fun ℓ2 σ2 e j=>?_
   exact ⟨ℓ2,σ2,forL_brk (tg_one ht) e,j⟩
theorem x_for {C:Cl}{t:Nat}{it:It}{b:Ss}{src:Src} (h:evalIt C it ℓ σ=some (.ok src,σ1)):exec C (.for_ (.one t) it b) ℓ σ=forL (execs C b) (.one t) src.keep src.vs ℓ σ1:=bokY_eq h
theorem it_obj {C:Cl}{e:Ex}{n:Nat}{l:List V} (he:evalE C e ℓ σ=some (.ok (.obj n),σ1)) (hn:σ1[n]? = some (.list l)):evalIt C (.ex e) ℓ σ=some (.ok ⟨l,fun σ'=>σ'[n]? = some (.list l)⟩,σ1):=by
 refine (bok_eq he).trans ?_
 show (match σ1[n]? with | some (O.list l)=>some (R.ok (Src.mk l fun σ'=>σ'[n]? = some (O.list l)),σ1) | _=>Option.none)=_
 rw [hn]
theorem it_rng {C:Cl}{e:Ex}{n:Nat} (he:evalE C e ℓ σ=some (.ok (.int n),σ1)) (hn:n≤lenMax):evalIt C (.rng1 e) ℓ σ=some (.ok ⟨(List.range n).map (fun k=>V.int (k:Nat)),fun u_=>True⟩,σ1):=by
 refine (bok_eq he).trans ?_
 refine (if_pos (by exact ln2 [(.le .v1 .v0)] (.an (.zle (.g (.n .v0)) (.n .v1)) (.zle (.n .v1) (.n .v0))) (.s (.d 11) (.d 111)) rfl hn)).trans ?_
 simp [rngL]
theorem toDs_int (f:Nat) (σ:H):∀is:List Int,(is.map V.int).mapM (toD (f + 1) σ)=some (is.map PyData.int)
 | []=>rfl
 | i::r=>by simp only [List.map_cons,List.mapM_cons,toDs_int f σ r];rfl
theorem toD_tup (f:Nat) (σ:H) (is:List Int):toD (f + 2) σ (.tup (is.map V.int))=some (.tuple (is.map PyData.int)):=by
 show ((is.map V.int).mapM (toD (f + 1) σ)).map PyData.tuple=_
 rw [toDs_int];rfl
theorem eqvAll_int:∀is js:List Int,PyData.eqvAll (is.map .int) (js.map .int)=decide (is=js)
 | [],[]=>rfl
 | [],_::_=>rfl
 | _::_,[]=>rfl
 | i::r,j::s=>by
  show ((i == j) && PyData.eqvAll (r.map .int) (s.map .int))=_
  rw [eqvAll_int r s]
  by_cases c:i=j <;> by_cases c':r=s <;> simp [c,c']
theorem eqV_tup (σ:H) (is js:List Int):eqV σ (.tup (is.map .int)) (.tup (js.map .int))=some (decide (is=js)):=by
 unfold eqV
 rw [toD_tup,toD_tup]
 show some (PyData.eqvAll (is.map .int) (js.map .int))=_
 rw [eqvAll_int]
theorem cb_t {α : Type} {C : Cl} {elt : Ex} {ifs : Es} {v : V} (h : evalIfs C ifs ℓ σ = some (.ok true, σ)) (he : evalE C elt ℓ σ = some (.ok v, σ)) :
  bok (evalIfs C ifs ℓ σ) (fun b σ2=>if b then bok (evalE C elt ℓ σ2) fun v σ3=>some (.ok (some v),σ3) else some (.ok .none,σ2))=some (.ok (some v),σ):=(bok_eq h).trans (bok_eq he)
theorem cb_f {C : Cl} {elt : Ex} {ifs : Es} (h : evalIfs C ifs ℓ σ = some (.ok false, σ)) :
  bok (evalIfs C ifs ℓ σ) (fun b σ2=>if b then bok (evalE C elt ℓ σ2) fun v σ3=>some (.ok (some v),σ3) else some (.ok .none,σ2))=some (.ok none,σ):=bok_eq h
theorem cb_p {C : Cl} {elt : Ex} {ifs : Es} {v : V} {p : Bool} (h : evalIfs C ifs ℓ σ = some (.ok p, σ)) (he : evalE C elt ℓ σ = some (.ok v, σ)) :
  bok (evalIfs C ifs ℓ σ) (fun b σ2=>if b then bok (evalE C elt ℓ σ2) fun v σ3=>some (.ok (some v),σ3) else some (.ok .none,σ2))=some (.ok (if p then some v else none),σ):=by
 cases p with
 | true=>exact (bok_eq h).trans (bok_eq he)
 | false=>exact bok_eq h
noncomputable def nth (l:List Int) (k:Nat):Int:=l.getD k 0
theorem ev_nth {pg:Pg} (hF:pg.fn 16=some ⟨[0,1],10,B16,.pure⟩) (d:Nat) (l:List Int) (k:Nat) {i:Int} (hi:i=k) (σ:H):callF pg (d + 1) 16 [.frz l,.int i] σ=some (.ok (.int (nth l k)),σ):=by
 subst hi;exact ev_at hF d l k σ
noncomputable def tupsV (ll:List (List Int)):List V:=ll.map fun is=>V.tup (is.map .int)
theorem getIdx_at {n:Nat}{l:List V} (h:σ[n]? = some (.list l)) {k:Nat} (hk:k < l.length):getIdx σ (.obj n) (.int k)=some l[k]:=by
 simp only [getIdx,asInt_int,Option.bind_some,items_get h,idxN]
 rw [if_pos (by exact ln1 [] (.zle .k0 (.n .v0)) (.d 11) rfl),if_pos (by exact ln2 [(.lt .v0 .v1)] (.zlt (.n .v0) (.n .v1)) (.d 111) rfl hk)]
 simp [hk]
@[simp] theorem getIdx_v0 (σ:H) (x:T3):getIdx σ x.v (.int 0)=some (.int x.a):=rfl
@[simp] theorem getIdx_v1 (σ:H) (x:T3):getIdx σ x.v (.int 1)=some (.int x.b):=rfl
@[simp] theorem getIdx_v2 (σ:H) (x:T3):getIdx σ x.v (.int 2)=some (.int x.c):=rfl
@[simp] theorem getIdx_p0 (σ:H) (x y:V):getIdx σ (.tup [x,y]) (.int 0)=some x:=rfl
@[simp] theorem getIdx_p1 (σ:H) (x y:V):getIdx σ (.tup [x,y]) (.int 1)=some y:=rfl
theorem belows_t3 (n:Nat):∀ts:List T3,belows n (ts.map T3.v)=true
 | []=>rfl
 | t::r=>and_i (T3.below_v n t) (belows_t3 n r)
theorem belows_is (n:Nat):∀is:List Int,belows n (is.map V.int)=true
 | []=>rfl
 | t::r=>and_i rfl (belows_is n r)
theorem belows_tups (n:Nat):∀ll:List (List Int),belows n (tupsV ll)=true
 | []=>rfl
 | t::r=>and_i (belows_is n t) (belows_tups n r)
theorem t3s_map:∀ts:List T3,t3s (ts.map T3.v)=some ts
 | []=>rfl
 | t::r=>by
  show (t3Of t.v).bind (fun t=>(t3s (r.map T3.v)).map (t::·))=_
  rw [t3s_map r];rfl
theorem sortV_t3 (ts:List T3) (h:ascB ts=true):sortV (ts.map T3.v)=some ((ts.mergeSort T3.le).map T3.v):=by
 cases ts with
 | nil=>simp [sortV,asInts,ascB]
 | cons t r=>
  show ((t3s ((t::r).map T3.v)).bind fun ts=>if ascB ts then some ((ts.mergeSort T3.le).map T3.v) else .none)=_
  rw [t3s_map]
  exact if_pos h
theorem ev_whole {pg:Pg} (hF:pg.fn 1=some ⟨[0],9,B1,.pure⟩) (d:Nat) (i:Int) (h1 : -10 ^ 60 < i) (h2:i < 10 ^ 60) (σ:H):callF pg (d + 1) 1 [.int i] σ=some (.ok .none,σ):=by
 have hc:(decide (-10 ^ 60 < i) && decide (i < 10 ^ 60))=true:=by rw [decide_eq_true h1,decide_eq_true h2];rfl
 have hc':evalE ⟨pg,callF pg d⟩ (Ex.cmp (Ex.neg (Ex.bin Bop.pow (Ex.lit (V.int 10)) (Ex.lit (V.int 60)))) (Ch.more Cop.lt (Ex.var 0) (Ch.one Cop.lt (Ex.bin Bop.pow (Ex.lit (V.int 10)) (Ex.lit (V.int 60)))))) [some (.int i),none,none,none,none,none,none,none,none] σ=some (.ok (.bool true),σ):=by
  rw [← hc]
  exact e_cmp2 (e_neg (e_bin e_lit e_lit (bin_pow (by decide) _))) (e_var rfl) (e_bin e_lit e_lit (bin_pow (by decide) _)) rfl rfl
 exact ev_fnN hF rfl (xs_one (x_iff (e_orf (notT (e_blt (es_cons (e_var rfl) (es_cons e_ty es_nil)) rfl)) (e_orf (e_blt (es_cons (e_var rfl) (es_cons e_ty es_nil)) rfl) (notT hc'))) xs_nil))
theorem ev_span {pg:Pg} (h1:pg.fn 1=some ⟨[0],9,B1,.pure⟩) (hF:pg.fn 2=some ⟨[0,1],10,B2,.pure⟩) (d:Nat) (lo hi:Int) (hl : -10 ^ 60 < lo) (hle:lo≤hi) (hh:hi < 10 ^ 60) (σ:H):callF pg (d + 2) 2 [.int lo,.int hi] σ=some (.ok .none,σ):=by
 exact ev_fnN hF rfl (xs_cons (x_expr (e_call (es_cons (e_var rfl) es_nil) (ev_whole h1 d lo hl (by exact lz3 [(.zle .v0 .v2),(.zlt .v2 .v1)] (.zlt .v0 .v1) (.d 1111) rfl hle hh) σ))) (xs_cons (x_expr (e_call (es_cons (e_var rfl) es_nil) (ev_whole h1 d hi (by exact lz3 [(.zlt (.g .v0) .v2),(.zle .v2 .v1)] (.zlt (.g .v0) .v1) (.d 1111) rfl hl hle) hh σ))) (xs_one (x_iff (e_cmp (e_var rfl) (e_var rfl) (gtF (by exact lz2 [(.zle .v1 .v0)] (.no (.zlt .v0 .v1)) (.d 111) rfl hle))) xs_nil))))
theorem asInts_map:∀l:List Int,asInts (l.map V.int)=some l
 | []=>rfl
 | x::r=>by show (asInts (r.map V.int)).map (_::·)=_;rw [asInts_map r];rfl
theorem filterMap_if {α:Type} (p:α→Bool) (g:α→V):∀l:List α,l.filterMap (fun x=>if p x then some (g x) else none)=(l.filter p).map g
 | []=>rfl
 | x::r=>by
  by_cases c:p x=true
  ·rw [List.filterMap_cons_some (b:=g x) (by rw [if_pos c]),List.filter_cons_of_pos c,List.map_cons,filterMap_if p g r]
  ·rw [List.filterMap_cons_none (by rw [if_neg c]),List.filter_cons_of_neg c,filterMap_if p g r]
inductive Tr where
 | nil
 | node (x:T3) (l r:Tr)
 deriving DecidableEq
noncomputable def mx (x y:Int):Int:=if x < y then y else x
noncomputable def Tr.ht:Tr→Int
 | .nil=>0
 | .node _ l r=>1 + mx l.ht r.ht
noncomputable def Tr.isNil:Tr→Bool
 | .nil=>true
 | .node ..=>false
noncomputable def Tr.rc:Tr→Int
 | .nil=>0
 | .node x l r=>let a:=if l.isNil then x.b else mx x.b l.rc;if r.isNil then a else mx a r.rc
noncomputable def Tr.v:Tr→V
 | .nil=>.none
 | .node x l r=>.tup [x.v,l.v,r.v,.int (1 + mx l.ht r.ht),.int (Tr.node x l r).rc]
noncomputable def Tr.tl:Tr→List T3
 | .nil=>[]
 | .node x l r=>l.tl++x::r.tl
noncomputable def Tr.sz:Tr→Nat
 | .nil=>0
 | .node _ l r=>l.sz + r.sz + 1
theorem Tr.ht_0:Tr.nil.ht=0:=rfl
theorem Tr.ht_1 {x:T3}{l r:Tr}:(Tr.node x l r).ht=1 + mx l.ht r.ht:=rfl
theorem Tr.tl_0:Tr.nil.tl=[]:=rfl
theorem Tr.tl_1 {x:T3}{l r:Tr}:(Tr.node x l r).tl=l.tl++x::r.tl:=rfl
theorem Tr.sz_0:Tr.nil.sz=0:=rfl
theorem Tr.sz_1 {x:T3}{l r:Tr}:(Tr.node x l r).sz=l.sz + r.sz + 1:=rfl
theorem Tr.sz_tl:∀t:Tr,t.tl.length=t.sz
 | .nil=>rfl
 | .node x l r=>by simp only [Tr.tl_0,Tr.tl_1,Tr.sz_0,Tr.sz_1,List.length_append,List.length_cons,Tr.sz_tl l,Tr.sz_tl r];exact ln2 [] (.eq (.a .v0 (.a .v1 .k1)) (.a (.a .v0 .v1) .k1)) (.s (.d 11) (.d 11)) rfl
theorem Tr.ht_nn:∀t:Tr,0≤t.ht
 | .nil=>by simp [Tr.ht_0,Tr.ht_1]
 | .node x l r=>by have:=Tr.ht_nn l;have:=Tr.ht_nn r;simp only [Tr.ht_0,Tr.ht_1,mx];split <;> lia
theorem Tr.v_below (n:Nat):∀t:Tr,below n t.v=true
 | .nil=>rfl
 | .node x l r=>by
  show belows n _=true
  exact and_i (T3.below_v n x) (and_i (Tr.v_below n l) (and_i (Tr.v_below n r) (and_i rfl (and_i rfl rfl))))
noncomputable def Tr.rotL (x:T3) (l r:Tr):Tr:=match l with
 | .nil=>.nil
 | .node y a b=>if b.ht≤a.ht then .node y a (.node x b r) else match b with
  | .nil=>.nil
  | .node z c d=>.node z (.node y a c) (.node x d r)
noncomputable def Tr.rotR (x:T3) (l r:Tr):Tr:=match r with
 | .nil=>.nil
 | .node y a b=>if a.ht≤b.ht then .node y (.node x l a) b else match a with
  | .nil=>.nil
  | .node z c d=>.node z (.node x l c) (.node y d b)
noncomputable def Tr.bal (x:T3) (l r:Tr):Tr:=if r.ht + 1 < l.ht then Tr.rotL x l r else if l.ht + 1 < r.ht then Tr.rotR x l r else .node x l r
set_option tactic.hygienic true in
theorem Tr.tl_rotL {x:T3}{l r:Tr} (h:r.ht + 1 < l.ht):(Tr.rotL x l r).tl=l.tl++x::r.tl:=by
 have hr:=r.ht_nn
 cases l with
 | nil=>simp only [Tr.ht_0,Tr.ht_1] at h;lia
 | node y a b=>
  unfold Tr.rotL;dsimp only
  split
  ·simp [Tr.tl_0,Tr.tl_1]
  ·rename_i c
   cases b with
   | nil=>have:=a.ht_nn;simp only [Tr.ht_0,Tr.ht_1] at c;lia
   | node z c d=>simp [Tr.tl_0,Tr.tl_1]
set_option tactic.hygienic true in
theorem Tr.tl_rotR {x:T3}{l r:Tr} (h:l.ht + 1 < r.ht):(Tr.rotR x l r).tl=l.tl++x::r.tl:=by
 have hr:=l.ht_nn
 cases r with
 | nil=>simp only [Tr.ht_0,Tr.ht_1] at h;lia
 | node y a b=>
  unfold Tr.rotR;dsimp only
  split
  ·simp [Tr.tl_0,Tr.tl_1]
  ·rename_i c
   cases a with
   | nil=>have:=b.ht_nn;simp only [Tr.ht_0,Tr.ht_1] at c;lia
   | node z c d=>simp [Tr.tl_0,Tr.tl_1]
set_option tactic.hygienic true in
theorem Tr.tl_bal (x:T3) (l r:Tr):(Tr.bal x l r).tl=l.tl++x::r.tl:=by
 unfold Tr.bal
 split
 ·rename_i h;exact Tr.tl_rotL h
 ·split
  ·rename_i h;exact Tr.tl_rotR h
  ·rfl
noncomputable def T3.lt (x y:T3):Bool:=decide (x.a < y.a) || (decide (x.a=y.a) && (decide (x.b < y.b) || (decide (x.b=y.b) && decide (x.c < y.c))))
theorem T3.lt_iff {x y:T3}:T3.lt x y=true↔(x.a < y.a∨(x.a=y.a∧(x.b < y.b∨(x.b=y.b∧x.c < y.c)))):=by simp [T3.lt]
theorem T3.eq_iff {x y:T3}:x=y↔(x.a=y.a∧x.b=y.b∧x.c=y.c):=⟨fun e=>e ▸ ⟨rfl,rfl,rfl⟩,fun h=>by cases x;cases y;revert h;refine rAA fun h1 h2 h3=>?_;cases h1;cases h2;cases h3;rfl⟩
theorem T3.lt_tri (x y:T3):T3.lt x y=true∨x=y∨T3.lt y x=true:=by
 rw [T3.lt_iff,T3.lt_iff,T3.eq_iff];exact lz6 [] (.or (.or (.zlt .v0 .v1) (.an (.zeq .v0 .v1) (.or (.zlt .v2 .v3) (.an (.zeq .v2 .v3) (.zlt .v4 .v5))))) (.or (.an (.zeq .v0 .v1) (.an (.zeq .v2 .v3) (.zeq .v4 .v5))) (.or (.zlt .v1 .v0) (.an (.zeq .v1 .v0) (.or (.zlt .v3 .v2) (.an (.zeq .v3 .v2) (.zlt .v5 .v4))))))) (.s (.s (.s (.s (.s (.s (.d 111) (.d 111)) (.s (.s (.d 111) (.d 111)) (.d 111))) (.s (.s (.d 111) (.d 111)) (.s (.s (.d 111) (.d 111)) (.d 111)))) (.s (.s (.s (.s (.d 111) (.d 111)) (.s (.s (.d 111) (.d 111)) (.d 111))) (.s (.s (.d 111) (.d 111)) (.s (.s (.d 111) (.d 111)) (.d 111)))) (.s (.s (.s (.d 111) (.d 111)) (.s (.s (.d 111) (.d 111)) (.d 111))) (.s (.s (.d 111) (.d 111)) (.s (.s (.d 111) (.d 111)) (.d 111)))))) (.s (.s (.s (.s (.d 1011) (.d 1011)) (.s (.s (.d 1011) (.d 1011)) (.d 1011))) (.s (.s (.d 10101) (.d 10101)) (.s (.s (.d 10101) (.d 10101)) (.d 10101)))) (.s (.s (.s (.s (.d 10101) (.d 10101)) (.s (.s (.d 10101) (.d 10101)) (.d 10101))) (.s (.s (.d 10101) (.d 10101)) (.s (.s (.d 10101) (.d 10101)) (.d 10101)))) (.s (.s (.s (.d 10101) (.d 10101)) (.s (.s (.d 10101) (.d 10101)) (.d 10101))) (.s (.s (.d 10101) (.d 10101)) (.s (.s (.d 10101) (.d 10101)) (.d 10101))))))) (.s (.s (.s (.s (.s (.s (.d 1011) (.d 1011)) (.s (.s (.d 1011) (.d 1011)) (.d 1011))) (.s (.s (.d 1011) (.d 1011)) (.s (.s (.d 1011) (.d 1011)) (.d 1011)))) (.s (.s (.s (.s (.d 1011) (.d 1011)) (.s (.s (.d 1011) (.d 1011)) (.d 1011))) (.s (.s (.d 1011) (.d 1011)) (.s (.s (.d 1011) (.d 1011)) (.d 1011)))) (.s (.s (.s (.d 1011) (.d 1011)) (.s (.s (.d 1011) (.d 1011)) (.d 1011))) (.s (.s (.d 1011) (.d 1011)) (.s (.s (.d 1011) (.d 1011)) (.d 1011)))))) (.s (.s (.s (.s (.d 11001) (.d 11001)) (.s (.s (.d 11001) (.d 11001)) (.d 11001))) (.s (.s (.d 100011) (.d 100011)) (.s (.s (.d 100011) (.d 100011)) (.d 100011)))) (.s (.s (.s (.s (.d 10011) (.d 10011)) (.s (.s (.d 10011) (.d 10011)) (.d 10011))) (.s (.s (.d 1000011) (.d 1100001)) (.s (.s (.d 1001001) (.d 1001001)) (.d 1001001)))) (.s (.s (.s (.d 1000011) (.d 1100001)) (.s (.s (.d 1001001) (.d 1001001)) (.d 1001001))) (.s (.s (.d 1000011) (.d 1100001)) (.s (.s (.d 1001001) (.d 1001001)) (.d 1001001))))))) (.s (.s (.s (.s (.d 11001) (.d 11001)) (.s (.s (.d 11001) (.d 11001)) (.d 11001))) (.s (.s (.d 100011) (.d 100011)) (.s (.s (.d 100011) (.d 100011)) (.d 100011)))) (.s (.s (.s (.s (.d 10101) (.d 10101)) (.s (.s (.d 10101) (.d 10101)) (.d 10101))) (.s (.s (.d 1000011) (.d 1100001)) (.s (.s (.d 1000101) (.d 1000101)) (.d 1000101)))) (.s (.s (.s (.d 10011) (.d 10011)) (.s (.s (.d 10011) (.d 10011)) (.d 10011))) (.s (.s (.d 1000011) (.d 1100001)) (.s (.s (.d 10000011) (.d 10100001)) (.d 10001001)))))))) rfl
theorem T3.lt_irr (x:T3):¬ T3.lt x x=true:=by rw [T3.lt_iff];exact lz3 [] (.no (.or (.zlt .v0 .v0) (.an (.zeq .v0 .v0) (.or (.zlt .v1 .v1) (.an (.zeq .v1 .v1) (.zlt .v2 .v2)))))) (.s (.d 11) (.s (.d 1001) (.d 100001))) rfl
theorem T3.lt_trans {x y z:T3} (h1:T3.lt x y=true) (h2:T3.lt y z=true):T3.lt x z=true:=by
 rw [T3.lt_iff] at *;exact lin [(.or (.zlt .v0 .v6) (.an (.zeq .v0 .v6) (.or (.zlt .v2 .v7) (.an (.zeq .v2 .v7) (.zlt .v4 .v8))))),(.or (.zlt .v6 .v1) (.an (.zeq .v6 .v1) (.or (.zlt .v7 .v3) (.an (.zeq .v7 .v3) (.zlt .v8 .v5)))))] (.or (.zlt .v0 .v1) (.an (.zeq .v0 .v1) (.or (.zlt .v2 .v3) (.an (.zeq .v2 .v3) (.zlt .v4 .v5))))) (.s (.s (.s (.s (.d 111) (.s (.d 111) (.d 111))) (.s (.s (.d 111) (.s (.d 111) (.d 111))) (.s (.d 111) (.s (.d 111) (.d 111))))) (.s (.s (.d 10111) (.s (.d 10111) (.d 10111))) (.s (.s (.d 1011001) (.s (.d 1011001) (.d 1011001))) (.s (.d 101100001) (.s (.d 101100001) (.d 101100001)))))) (.s (.s (.s (.s (.d 1011) (.s (.d 1011) (.d 1011))) (.s (.s (.d 1011) (.s (.d 1011) (.d 1011))) (.s (.d 1011) (.s (.d 1011) (.d 1011))))) (.s (.s (.d 110011) (.s (.d 110011) (.d 110011))) (.s (.s (.d 11001001) (.s (.d 1001001001) (.d 1001001001))) (.s (.d 1100100001) (.s (.d 100100100001) (.d 100100100001)))))) (.s (.s (.d 110011) (.s (.d 110011) (.d 110011))) (.s (.s (.d 11001001) (.s (.d 1010001001) (.d 1010001001))) (.s (.d 1100100001) (.s (.d 101000100001) (.d 10010000100001))))))) rfl [] [_,_,_,_,_,_,_,_,_] h1 h2
noncomputable def Tr.ins (x:T3):Tr→Option Tr
 | .nil=>some (.node x .nil .nil)
 | .node y l r=>if x=y then none else if T3.lt x y then (Tr.ins x l).map fun l'=>Tr.bal y l' r else (Tr.ins x r).map fun r'=>Tr.bal y l r'
noncomputable def Tr.least:Tr→T3→T3
 | .nil,x=>x
 | .node y l _,_=>Tr.least l y
noncomputable def Tr.del (x:T3):Tr→Option Tr
 | .nil=>none
 | .node y l r=>if T3.lt x y then (Tr.del x l).map fun l'=>Tr.bal y l' r else if T3.lt y x then (Tr.del x r).map fun r'=>Tr.bal y l r'
  else if l.isNil then some r else if r.isNil then some l else (Tr.del (r.least x) r).map fun r'=>Tr.bal (r.least x) l r'
theorem Tr.ins_1 {x y:T3}{l r:Tr}:Tr.ins x (.node y l r)=if x=y then none else if T3.lt x y then (Tr.ins x l).map fun l'=>Tr.bal y l' r else (Tr.ins x r).map fun r'=>Tr.bal y l r':=rfl
theorem Tr.least_1 {x y:T3}{l r:Tr}:Tr.least (.node y l r) x=Tr.least l y:=rfl
theorem Tr.least_0 {x:T3}:Tr.least .nil x=x:=rfl
theorem Tr.del_1 {x y : T3} {l r : Tr} : Tr.del x (.node y l r) = if T3.lt x y then (Tr.del x l).map fun l' => Tr.bal y l' r else if T3.lt y x then (Tr.del x r).map fun r' => Tr.bal y l r'
  else if l.isNil then some r else if r.isNil then some l else (Tr.del (r.least x) r).map fun r'=>Tr.bal (r.least x) l r':=rfl
noncomputable def Srt3 (l:List T3):Prop:=l.Pairwise fun x y=>T3.lt x y=true
theorem Srt3.node {a b:List T3}{x:T3}:Srt3 (a++x::b)↔(Srt3 a∧Srt3 b∧(∀y∈a,T3.lt y x=true)∧∀y∈b,T3.lt x y=true):=by
 unfold Srt3
 rw [List.pairwise_append,List.pairwise_cons]
 constructor
 ·intro hR0
  revert hR0;refine rAA fun h1 hO1 h4=>?_;obtain ⟨h2,h3⟩:=hO1
  exact ⟨h1,h3,fun y hy=>h4 y hy x (by simp),h2⟩
 ·intro hR0
  revert hR0;refine rAAA fun h1 h2 h3 h4=>?_
  refine ⟨h1,⟨h4,h2⟩,fun y hy z hz=>?_⟩
  rcases List.mem_cons.mp hz with rfl | hz
  ·exact h3 y hy
  ·exact T3.lt_trans (h3 y hy) (h4 z hz)
theorem Srt3.eq:∀{a b:List T3},Srt3 a→Srt3 b→(∀x,x∈a↔x∈b)→a=b
 | [],[],_,_,_=>rfl
 | [],y::b,_,_,h=>by have:=(h y).mpr (by simp);simp at this
 | x::a,[],_,_,h=>by have:=(h x).mp (by simp);simp at this
 | x::a,y::b,h1,h2,h=>by
  unfold Srt3 at h1 h2
  rw [List.pairwise_cons] at h1 h2
  have e:x=y:=by
   rcases List.mem_cons.mp ((h x).mp (by simp)) with e | hx
   ·exact e
   rcases List.mem_cons.mp ((h y).mpr (by simp)) with e | hy
   ·exact e.symm
   exact absurd (T3.lt_trans (h1.1 y hy) (h2.1 x hx)) (T3.lt_irr _)
  subst e
  have:a=b:=Srt3.eq h1.2 h2.2 fun z=>by
   constructor
   ·intro hz
    rcases List.mem_cons.mp ((h z).mp (by simp [hz])) with rfl | hb
    ·exact absurd (h1.1 _ hz) (T3.lt_irr _)
    ·exact hb
   ·intro hz
    rcases List.mem_cons.mp ((h z).mpr (by simp [hz])) with rfl | hb
    ·exact absurd (h2.1 _ hz) (T3.lt_irr _)
    ·exact hb
  rw [this]
theorem Tr.ins_ok (x:T3):∀{t:Tr},Srt3 t.tl→(Tr.ins x t=none∧x∈t.tl)∨∃t',Tr.ins x t=some t'∧x ∉ t.tl∧Srt3 t'.tl∧∀y,y∈t'.tl↔y=x∨y∈t.tl
 | .nil,_=>.inr ⟨_,rfl,by simp [Tr.tl_0,Tr.tl_1],by simp [Tr.tl_0,Tr.tl_1,Srt3],by simp [Tr.tl_0,Tr.tl_1]⟩
 | .node y l r,h=>by
  refine rAAA (fun hl hr h1 h2=>?_) (Srt3.node.mp h)
  by_cases c:x=y
  ·subst c;exact .inl ⟨if_pos rfl,by simp [Tr.tl_0,Tr.tl_1]⟩
  by_cases d:T3.lt x y=true
  ·have e:Tr.ins x (.node y l r)=(Tr.ins x l).map fun l'=>Tr.bal y l' r:=by rw [Tr.ins_1,if_neg c,if_pos d]
   rcases Tr.ins_ok x hl with ⟨i1,i2⟩ | ⟨t',i1,i2,i3,i4⟩
   ·exact .inl ⟨by rw [e,i1];rfl,by simp [Tr.tl_0,Tr.tl_1,i2]⟩
   ·refine .inr ⟨_,by rw [e,i1];rfl,fun hm=>?_,?_,fun z=>?_⟩
    ·rcases List.mem_append.mp hm with hm | hm
     ·exact i2 hm
     ·rcases List.mem_cons.mp hm with hm | hm
      ·exact c hm
      ·exact T3.lt_irr _ (T3.lt_trans d (h2 _ hm))
    ·rw [Tr.tl_bal,Srt3.node]
     refine ⟨i3,hr,fun z hz=>?_,h2⟩
     rcases (i4 z).mp hz with rfl | hz
     ·exact d
     ·exact h1 z hz
    ·rw [Tr.tl_bal];simp only [Tr.tl_0,Tr.tl_1,List.mem_append,List.mem_cons,i4 z,or_assoc]
  ·have d' : T3.lt y x = true := by
    rcases T3.lt_tri x y with h | h | h
    ·exact absurd h d
    ·exact absurd h c
    ·exact h
   have e:Tr.ins x (.node y l r)=(Tr.ins x r).map fun r'=>Tr.bal y l r':=by rw [Tr.ins_1,if_neg c,if_neg d]
   rcases Tr.ins_ok x hr with ⟨i1,i2⟩ | ⟨t',i1,i2,i3,i4⟩
   ·exact .inl ⟨by rw [e,i1];rfl,by simp [Tr.tl_0,Tr.tl_1,i2]⟩
   ·refine .inr ⟨_,by rw [e,i1];rfl,fun hm=>?_,?_,fun z=>?_⟩
    ·rcases List.mem_append.mp hm with hm | hm
     ·exact T3.lt_irr _ (T3.lt_trans d' (h1 _ hm))
     ·rcases List.mem_cons.mp hm with hm | hm
      ·exact c hm
      ·exact i2 hm
    ·rw [Tr.tl_bal,Srt3.node]
     refine ⟨hl,i3,h1,fun z hz=>?_⟩
     rcases (i4 z).mp hz with rfl | hz
     ·exact d'
     ·exact h2 z hz
    ·rw [Tr.tl_bal];simp only [Tr.tl_0,Tr.tl_1,List.mem_append,List.mem_cons,i4 z];constructor
     ·rintro (h | h | h | h) <;> simp [h]
     ·rintro (h | h | h | h) <;> simp [h]
theorem Tr.least_ok:∀(t:Tr) (x:T3),t.isNil=false→Srt3 t.tl→t.least x∈t.tl∧∀y∈t.tl,y≠t.least x→T3.lt (t.least x) y=true
 | .nil,_,h,_=>by exact tf h
 | .node y l r,x,_,hs=>by
  refine rAAA (fun hl hr h1 h2=>?_) (Srt3.node.mp hs)
  show Tr.least l y∈l.tl++y::r.tl∧∀z∈l.tl++y::r.tl,z≠Tr.least l y→_
  cases hn:l.isNil with
  | true=>
   cases l with
   | node _ _ _=>exact ft hn
   | nil=>
    refine ⟨by simp [Tr.least_0,Tr.least_1],fun z hz hne=>?_⟩
    rcases List.mem_append.mp hz with h | h
    ·simp [Tr.tl_0,Tr.tl_1] at h
    ·rcases List.mem_cons.mp h with h | h
     ·exact absurd h hne
     ·exact h2 z h
  | false=>
   refine rA (fun i1 i2=>?_) (Tr.least_ok l y hn hl)
   refine ⟨List.mem_append_left _ i1,fun z hz hne=>?_⟩
   rcases List.mem_append.mp hz with h | h
   ·exact i2 z h hne
   ·rcases List.mem_cons.mp h with h | h
    ·subst h;exact h1 _ i1
    ·exact T3.lt_trans (h1 _ i1) (h2 z h)
theorem Tr.del_ok:∀{t:Tr} (x:T3),Srt3 t.tl→(Tr.del x t=none∧x ∉ t.tl)∨∃t',Tr.del x t=some t'∧x∈t.tl∧Srt3 t'.tl∧∀y,y∈t'.tl↔(y≠x∧y∈t.tl)
 | .nil,x,_=>.inl ⟨rfl,by simp [Tr.tl_0,Tr.tl_1]⟩
 | .node y l r,x,h=>by
  refine rAAA (fun hl hr h1 h2=>?_) (Srt3.node.mp h)
  by_cases d:T3.lt x y=true
  ·have e:Tr.del x (.node y l r)=(Tr.del x l).map fun l'=>Tr.bal y l' r:=by rw [Tr.del_1,if_pos d]
   have hy:y≠x:=fun e=>by subst e;exact T3.lt_irr _ d
   have hxr:∀z∈r.tl,z≠x:=fun z hz e=>by subst e;exact T3.lt_irr _ (T3.lt_trans d (h2 _ hz))
   rcases Tr.del_ok x hl with ⟨i1,i2⟩ | ⟨t',i1,i2,i3,i4⟩
   ·refine .inl ⟨by rw [e,i1];rfl,fun hm=>?_⟩
    rcases List.mem_append.mp hm with hm | hm
    ·exact i2 hm
    ·rcases List.mem_cons.mp hm with hm | hm
     ·exact hy hm.symm
     ·exact hxr _ hm rfl
   ·refine .inr ⟨_,by rw [e,i1];rfl,List.mem_append_left _ i2,?_,fun z=>?_⟩
    ·rw [Tr.tl_bal,Srt3.node];exact ⟨i3,hr,fun z hz=>h1 z ((i4 z).mp hz).2,h2⟩
    ·rw [Tr.tl_bal];simp only [Tr.tl_0,Tr.tl_1,List.mem_append,List.mem_cons,i4 z]
     constructor
     ·rintro (h | h | h)
      ·exact ⟨h.1,.inl h.2⟩
      ·subst h;exact ⟨hy,.inr (.inl rfl)⟩
      ·exact ⟨hxr z h,.inr (.inr h)⟩
     ·rintro ⟨h0,h | h | h⟩
      ·exact .inl ⟨h0,h⟩
      ·exact .inr (.inl h)
      ·exact .inr (.inr h)
  by_cases d2:T3.lt y x=true
  ·have e:Tr.del x (.node y l r)=(Tr.del x r).map fun r'=>Tr.bal y l r':=by rw [Tr.del_1,if_neg d,if_pos d2]
   have hy:y≠x:=fun e=>by subst e;exact T3.lt_irr _ d2
   have hxl:∀z∈l.tl,z≠x:=fun z hz e=>by subst e;exact T3.lt_irr _ (T3.lt_trans d2 (h1 _ hz))
   rcases Tr.del_ok x hr with ⟨i1,i2⟩ | ⟨t',i1,i2,i3,i4⟩
   ·refine .inl ⟨by rw [e,i1];rfl,fun hm=>?_⟩
    rcases List.mem_append.mp hm with hm | hm
    ·exact hxl _ hm rfl
    ·rcases List.mem_cons.mp hm with hm | hm
     ·exact hy hm.symm
     ·exact i2 hm
   ·refine .inr ⟨_,by rw [e,i1];rfl,List.mem_append_right _ (List.mem_cons_of_mem _ i2),?_,fun z=>?_⟩
    ·rw [Tr.tl_bal,Srt3.node];exact ⟨hl,i3,h1,fun z hz=>h2 z ((i4 z).mp hz).2⟩
    ·rw [Tr.tl_bal];simp only [Tr.tl_0,Tr.tl_1,List.mem_append,List.mem_cons,i4 z]
     constructor
     ·rintro (h | h | h)
      ·exact ⟨hxl z h,.inl h⟩
      ·subst h;exact ⟨hy,.inr (.inl rfl)⟩
      ·exact ⟨h.1,.inr (.inr h.2)⟩
     ·rintro ⟨h0,h | h | h⟩
      ·exact .inl h
      ·exact .inr (.inl h)
      ·exact .inr (.inr ⟨h0,h⟩)
  have hx:x=y:=by
   rcases T3.lt_tri x y with h | h | h
   ·exact absurd h d
   ·exact h
   ·exact absurd h d2
  subst hx
  have hxl:∀z∈l.tl,z≠x:=fun z hz e=>by subst e;exact T3.lt_irr _ (h1 _ hz)
  have hxr:∀z∈r.tl,z≠x:=fun z hz e=>by subst e;exact T3.lt_irr _ (h2 _ hz)
  right
  cases nl:l.isNil with
  | true=>
   cases l with
   | node _ _ _=>exact ft nl
   | nil=>
    refine ⟨r,by rw [Tr.del_1,if_neg d,if_neg d2];rfl,by simp [Tr.tl_0,Tr.tl_1],hr,fun z=>?_⟩
    simp only [Tr.tl_0,Tr.tl_1,List.nil_append,List.mem_cons]
    exact ⟨fun h=>⟨hxr z h,.inr h⟩,fun ⟨h0,h⟩=>h.resolve_left h0⟩
  | false=>
   cases nr:r.isNil with
   | true=>
    cases r with
    | node _ _ _=>exact ft nr
    | nil=>
     refine ⟨l,by rw [Tr.del_1,if_neg d,if_neg d2,if_neg (by rw [nl];decide)];rfl,by simp [Tr.tl_0,Tr.tl_1],hl,fun z=>?_⟩
     simp only [Tr.tl_0,Tr.tl_1,List.mem_append,List.mem_cons,List.not_mem_nil,or_false]
     exact ⟨fun h=>⟨hxl z h,.inl h⟩,fun ⟨h0,h⟩=>h.resolve_right h0⟩
   | false=>
    refine rA (fun m1 m2=>?_) (Tr.least_ok r x nr hr)
    have e:Tr.del x (.node x l r)=(Tr.del (r.least x) r).map fun r'=>Tr.bal (r.least x) l r':=by rw [Tr.del_1,if_neg d,if_neg d2,if_neg (by rw [nl];decide),if_neg (by rw [nr];decide)]
    rcases Tr.del_ok (r.least x) hr with ⟨i1,i2⟩ | ⟨t',i1,i2,i3,i4⟩
    ·exact absurd m1 i2
    refine ⟨_,by rw [e,i1];rfl,by simp [Tr.tl_0,Tr.tl_1],?_,fun z=>?_⟩
    ·rw [Tr.tl_bal,Srt3.node]
     exact ⟨hl,i3,fun z hz=>T3.lt_trans (h1 z hz) (h2 _ m1),fun z hz=>m2 z ((i4 z).mp hz).2 ((i4 z).mp hz).1⟩
    ·rw [Tr.tl_bal];simp only [Tr.tl_0,Tr.tl_1,List.mem_append,List.mem_cons,i4 z]
     constructor
     ·rintro (h | h | h)
      ·exact ⟨hxl z h,.inl h⟩
      ·subst h;exact ⟨hxr _ m1,.inr (.inr m1)⟩
      ·exact ⟨hxr z h.2,.inr (.inr h.2)⟩
     ·rintro ⟨h0,h | h | h⟩
      ·exact .inl h
      ·exact absurd h h0
      ·by_cases c:z=r.least x
       ·exact .inr (.inl c)
       ·exact .inr (.inr ⟨c,h⟩)
noncomputable def hits (lo hi:Int) (l:List T3):List T3:=l.filter fun x=>decide (x.a≤hi) && decide (lo≤x.b)
noncomputable def Tr.ask (lo hi:Int):Tr→List T3
 | .nil=>[]
 | .node x l r=>if (Tr.node x l r).rc < lo then [] else l.ask lo hi++(if x.a≤hi then (if lo≤x.b then [x] else [])++r.ask lo hi else [])
theorem Tr.ask_0 {lo hi:Int}:Tr.nil.ask lo hi=[]:=rfl
theorem Tr.ask_1 {lo hi:Int}{x:T3}{l r:Tr}:(Tr.node x l r).ask lo hi=if (Tr.node x l r).rc < lo then [] else l.ask lo hi++(if x.a≤hi then (if lo≤x.b then [x] else [])++r.ask lo hi else []):=rfl
theorem mx_le (x y:Int):x≤mx x y∧y≤mx x y:=by unfold mx;split <;> lia
set_option tactic.hygienic true in
theorem Tr.rc_ge:∀(t:Tr) (x:T3),x∈t.tl→x.b≤t.rc
 | .nil,x,h=>by simp [Tr.tl_0,Tr.tl_1] at h
 | .node y l r,x,h=>by
  have hl:=Tr.rc_ge l x;have hr:=Tr.rc_ge r x
  have a1:=mx_le y.b l.rc
  have a2:=mx_le (if l.isNil then y.b else mx y.b l.rc) r.rc
  have hnl:l.isNil=true→x ∉ l.tl:=fun h=>by cases l with
   | nil=>simp [Tr.tl_0,Tr.tl_1]
   | node _ _ _=>exact ft h
  have hnr:r.isNil=true→x ∉ r.tl:=fun h=>by cases r with
   | nil=>simp [Tr.tl_0,Tr.tl_1]
   | node _ _ _=>exact ft h
  show x.b≤(if r.isNil then (if l.isNil then y.b else mx y.b l.rc) else mx (if l.isNil then y.b else mx y.b l.rc) r.rc)
  have hb:x∈l.tl∨x=y→x.b≤(if l.isNil then y.b else mx y.b l.rc):=fun h=>by
   split
   ·rename_i c
    rcases h with h | h
    ·exact absurd h (hnl c)
    ·subst h;exact Int.le_refl _
   ·rcases h with h | h
    ·exact Int.le_trans (hl h) a1.2
    ·subst h;exact a1.1
  rcases List.mem_append.mp h with h | h
  ·split
   ·exact hb (.inl h)
   ·exact Int.le_trans (hb (.inl h)) a2.1
  ·rcases List.mem_cons.mp h with h | h
   ·split
    ·exact hb (.inr h)
    ·exact Int.le_trans (hb (.inr h)) a2.1
   ·rw [if_neg fun c=>hnr c h]
    exact Int.le_trans (hr h) a2.2
set_option tactic.hygienic true in
theorem Tr.ask_hits (lo hi:Int):∀(t:Tr),Srt3 t.tl→t.ask lo hi=hits lo hi t.tl
 | .nil,_=>rfl
 | .node x l r,h=>by
  refine rAAA (fun hl hr h1 h2=>?_) (Srt3.node.mp h)
  rw [Tr.ask_1]
  split
  ·rename_i c
   symm;unfold hits;rw [List.filter_eq_nil_iff]
   intro y hy;simp only [Bool.and_eq_true,decide_eq_true_eq,not_and]
   intro _;have:=Tr.rc_ge _ y hy;lia
  ·rw [Tr.ask_hits lo hi l hl]
   show _=List.filter _ (l.tl++x::r.tl)
   rw [List.filter_append,List.filter_cons]
   congr 1
   by_cases c:x.a≤hi
   ·rw [if_pos c,Tr.ask_hits lo hi r hr]
    by_cases d:lo≤x.b
    ·rw [if_pos d,if_pos (by simp [c,d])];rfl
    ·rw [if_neg d,if_neg (by simp [d])];rfl
   ·rw [if_neg c,if_neg (by simp [c])]
    symm;rw [List.filter_eq_nil_iff]
    intro y hy;simp only [Bool.and_eq_true,decide_eq_true_eq,not_and]
    intro h3;have:=T3.lt_iff.mp (h2 y hy);lia
noncomputable def lst:Nat→Nat
 | 0=>0
 | 1=>1
 | n + 2=>1 + lst (n + 1) + lst n
noncomputable def Tr.cnt (lo hi:Int):Tr→Nat
 | .nil=>0
 | .node x l r=>if (Tr.node x l r).rc < lo then 0 else 1 + l.cnt lo hi + (if x.a≤hi then r.cnt lo hi else 0)
theorem Tr.cnt_1 {lo hi:Int}{x:T3}{l r:Tr}:(Tr.node x l r).cnt lo hi=if (Tr.node x l r).rc < lo then 0 else 1 + l.cnt lo hi + (if x.a≤hi then r.cnt lo hi else 0):=rfl
noncomputable def S7_0:St:=(.ife (.cmp .v0 (.one .is (.lit .none))) (.cons (.ret (.i 0)) .nil) .nil)
noncomputable def S7_1:St:=(.ret (.idx .v0 (.i 3)))
noncomputable def B7:Ss:=.cons S7_0 <| .cons S7_1 <| .nil
noncomputable def S8_0:St:=(.asg (.one 3) (.idx .v0 (.i 1)))
noncomputable def S8_1:St:=(.ife (.cmp .v1 (.one .isnot (.lit .none))) (.cons (.asg (.one 3) (.blt .max (.cons .v3 (.cons (.idx .v1 (.i 4)) .nil)))) .nil) .nil)
noncomputable def S8_2:St:=(.ife (.cmp .v2 (.one .isnot (.lit .none))) (.cons (.asg (.one 3) (.blt .max (.cons .v3 (.cons (.idx .v2 (.i 4)) .nil)))) .nil) .nil)
noncomputable def S8_3:St:=(.ret (.tup (.cons .v0 (.cons .v1 (.cons .v2 (.cons (.bin .add (.i 1) (.blt .max (.cons (.call 7 (.cons .v1 .nil)) (.cons (.call 7 (.cons .v2 .nil)) .nil)))) (.cons .v3 .nil)))))))
noncomputable def B8:Ss:=.cons S8_0 <| .cons S8_1 <| .cons S8_2 <| .cons S8_3 <| .nil
noncomputable def S9_0:St:=(.ife (.cmp (.call 7 (.cons .v1 .nil)) (.one .gt (.bin .add (.call 7 (.cons .v2 .nil)) (.i 1)))) (.cons (.ife (.cmp (.call 7 (.cons (.idx .v1 (.i 1)) .nil)) (.one .ge (.call 7 (.cons (.idx .v1 (.i 2)) .nil)))) (.cons (.ret (.call 8 (.cons (.idx .v1 (.i 0)) (.cons (.idx .v1 (.i 1)) (.cons (.call 8 (.cons .v0 (.cons (.idx .v1 (.i 2)) (.cons .v2 .nil)))) .nil))))) .nil) .nil) (.cons (.asg (.one 3) (.idx .v1 (.i 2))) (.cons (.ret (.call 8 (.cons (.idx .v3 (.i 0)) (.cons (.call 8 (.cons (.idx .v1 (.i 0)) (.cons (.idx .v1 (.i 1)) (.cons (.idx .v3 (.i 1)) .nil)))) (.cons (.call 8 (.cons .v0 (.cons (.idx .v3 (.i 2)) (.cons .v2 .nil)))) .nil))))) .nil))) .nil)
noncomputable def S9_1:St:=(.ife (.cmp (.call 7 (.cons .v2 .nil)) (.one .gt (.bin .add (.call 7 (.cons .v1 .nil)) (.i 1)))) (.cons (.ife (.cmp (.call 7 (.cons (.idx .v2 (.i 2)) .nil)) (.one .ge (.call 7 (.cons (.idx .v2 (.i 1)) .nil)))) (.cons (.ret (.call 8 (.cons (.idx .v2 (.i 0)) (.cons (.call 8 (.cons .v0 (.cons .v1 (.cons (.idx .v2 (.i 1)) .nil)))) (.cons (.idx .v2 (.i 2)) .nil))))) .nil) .nil) (.cons (.asg (.one 3) (.idx .v2 (.i 1))) (.cons (.ret (.call 8 (.cons (.idx .v3 (.i 0)) (.cons (.call 8 (.cons .v0 (.cons .v1 (.cons (.idx .v3 (.i 1)) .nil)))) (.cons (.call 8 (.cons (.idx .v2 (.i 0)) (.cons (.idx .v3 (.i 2)) (.cons (.idx .v2 (.i 2)) .nil)))) .nil))))) .nil))) .nil)
noncomputable def S9_2:St:=(.ret (.call 8 (.cons .v0 (.cons .v1 (.cons .v2 .nil)))))
noncomputable def B9:Ss:=.cons S9_0 <| .cons S9_1 <| .cons S9_2 <| .nil
noncomputable def S10_0:St:=(.ife (.cmp .v0 (.one .is (.lit .none))) (.cons (.ret (.call 8 (.cons .v1 (.cons (.lit .none) (.cons (.lit .none) .nil))))) .nil) .nil)
noncomputable def S10_1:St:=(.ife (.cmp .v1 (.one .eq (.idx .v0 (.i 0)))) (.cons (.raise 12) .nil) .nil)
noncomputable def S10_2:St:=(.ife (.cmp .v1 (.one .lt (.idx .v0 (.i 0)))) (.cons (.ret (.call 9 (.cons (.idx .v0 (.i 0)) (.cons (.call 10 (.cons (.idx .v0 (.i 1)) (.cons .v1 .nil))) (.cons (.idx .v0 (.i 2)) .nil))))) .nil) .nil)
noncomputable def S10_3:St:=(.ret (.call 9 (.cons (.idx .v0 (.i 0)) (.cons (.idx .v0 (.i 1)) (.cons (.call 10 (.cons (.idx .v0 (.i 2)) (.cons .v1 .nil))) .nil)))))
noncomputable def B10:Ss:=.cons S10_0 <| .cons S10_1 <| .cons S10_2 <| .cons S10_3 <| .nil
noncomputable def S11_0:St:=(.whl (.cmp (.idx .v0 (.i 1)) (.one .isnot (.lit .none))) (.cons (.asg (.one 0) (.idx .v0 (.i 1))) .nil))
noncomputable def S11_1:St:=(.ret (.idx .v0 (.i 0)))
noncomputable def B11:Ss:=.cons S11_0 <| .cons S11_1 <| .nil
noncomputable def S12_0:St:=(.ife (.cmp .v0 (.one .is (.lit .none))) (.cons (.raise 13) .nil) .nil)
noncomputable def S12_1:St:=(.ife (.cmp .v1 (.one .lt (.idx .v0 (.i 0)))) (.cons (.ret (.call 9 (.cons (.idx .v0 (.i 0)) (.cons (.call 12 (.cons (.idx .v0 (.i 1)) (.cons .v1 .nil))) (.cons (.idx .v0 (.i 2)) .nil))))) .nil) .nil)
noncomputable def S12_2:St:=(.ife (.cmp .v1 (.one .gt (.idx .v0 (.i 0)))) (.cons (.ret (.call 9 (.cons (.idx .v0 (.i 0)) (.cons (.idx .v0 (.i 1)) (.cons (.call 12 (.cons (.idx .v0 (.i 2)) (.cons .v1 .nil))) .nil))))) .nil) .nil)
noncomputable def S12_3:St:=(.ife (.cmp (.idx .v0 (.i 1)) (.one .is (.lit .none))) (.cons (.ret (.idx .v0 (.i 2))) .nil) .nil)
noncomputable def S12_4:St:=(.ife (.cmp (.idx .v0 (.i 2)) (.one .is (.lit .none))) (.cons (.ret (.idx .v0 (.i 1))) .nil) .nil)
noncomputable def S12_5:St:=(.asg (.one 2) (.call 11 (.cons (.idx .v0 (.i 2)) .nil)))
noncomputable def S12_6:St:=(.ret (.call 9 (.cons .v2 (.cons (.idx .v0 (.i 1)) (.cons (.call 12 (.cons (.idx .v0 (.i 2)) (.cons .v2 .nil))) .nil)))))
noncomputable def B12:Ss:=.cons S12_0 <| .cons S12_1 <| .cons S12_2 <| .cons S12_3 <| .cons S12_4 <| .cons S12_5 <| .cons S12_6 <| .nil
noncomputable def S3_0:St:=(.expr (.call 1 (.cons .v2 .nil)))
noncomputable def S3_1:St:=(.expr (.call 2 (.cons .v0 (.cons .v1 .nil))))
noncomputable def S3_2:St:=(.ret (.tup (.cons .v0 (.cons .v1 (.cons .v2 .nil)))))
noncomputable def B3:Ss:=.cons S3_0 <| .cons S3_1 <| .cons S3_2 <| .nil
noncomputable def S70_0:St:=(.aset .v0 0 (.lit .none))
noncomputable def S70_1:St:=(.aset .v0 1 (.i 0))
noncomputable def B70:Ss:=.cons S70_0 <| .cons S70_1 <| .nil
noncomputable def S71_0:St:=(.aset .v0 0 (.call 10 (.cons (.attr .v0 0) (.cons (.call 3 (.cons .v1 (.cons .v2 (.cons .v3 .nil)))) .nil))))
noncomputable def S71_1:St:=(.aset .v0 1 (.bin .add (.attr .v0 1) (.i 1)))
noncomputable def B71:Ss:=.cons S71_0 <| .cons S71_1 <| .nil
noncomputable def S72_0:St:=(.aset .v0 0 (.call 12 (.cons (.attr .v0 0) (.cons (.call 3 (.cons .v1 (.cons .v2 (.cons .v3 .nil)))) .nil))))
noncomputable def S72_1:St:=(.aset .v0 1 (.bin .sub (.attr .v0 1) (.i 1)))
noncomputable def B72:Ss:=.cons S72_0 <| .cons S72_1 <| .nil
section
variable {pg:Pg}
structure P2 (pg:Pg):Prop where
 f1:pg.fn 1=some ⟨[0],9,B1,.pure⟩
 f2:pg.fn 2=some ⟨[0,1],10,B2,.pure⟩
 f3:pg.fn 3=some ⟨[0,1,2],11,B3,.pure⟩
 f7:pg.fn 7=some ⟨[0],9,B7,.pure⟩
 f8:pg.fn 8=some ⟨[0,1,2],12,B8,.pure⟩
 f9:pg.fn 9=some ⟨[0,1,2],12,B9,.pure⟩
 f10:pg.fn 10=some ⟨[0,1],10,B10,.pure⟩
 f11:pg.fn 11=some ⟨[0],9,B11,.pure⟩
 f12:pg.fn 12=some ⟨[0,1],11,B12,.pure⟩
 f70:pg.fn 70=some ⟨[0],9,B70,.raw⟩
 f71:pg.fn 71=some ⟨[0,1,2,3],12,B71,.raw⟩
 f72:pg.fn 72=some ⟨[0,1,2,3],12,B72,.raw⟩
 m1:pg.mt 0 1=some 71
 m2:pg.mt 0 2=some 72
 init:pg.init 0=some 70
theorem ev_fnX {d n k:Nat}{ps:List Nat}{B:Ss}{as:List V}{c:Nat} (hF:pg.fn n=some ⟨ps,k,B,.pure⟩) (hs:startL ⟨ps,k,B,.pure⟩ as=some ℓ) (h:execs ⟨pg,callF pg d⟩ B ℓ σ=some (.exc c,ℓ',σ)):callF pg (d + 1) n as σ=some (.exc c,σ):=by
 rw [callF_eq hF hs];show gc .pure σ (retX (execs ⟨pg,callF pg d⟩ B ℓ σ))=_;rw [h];exact if_pos List.take_length
theorem ev_raw {d n k:Nat}{ps:List Nat}{B:Ss}{as:List V}{r:X V} (hF:pg.fn n=some ⟨ps,k,B,.raw⟩) (hs:startL ⟨ps,k,B,.raw⟩ as=some ℓ) (h:retX (execs ⟨pg,callF pg d⟩ B ℓ σ)=r):callF pg (d + 1) n as σ=r:=by
 rw [callF_eq hF hs];exact h
theorem rx_ret {C:Cl}{B:Ss}{v:V} (h:execs C B ℓ σ=some (.ret v,ℓ',σ')):retX (execs C B ℓ σ)=some (.ok v,σ'):=by rw [h];rfl
set_option tactic.hygienic true in
theorem rx_next {C:Cl}{B:Ss} (h:execs C B ℓ σ=some (.next,ℓ',σ')):retX (execs C B ℓ σ)=some (.ok .none,σ'):=by rw [h];rfl
theorem rx_exc {C:Cl}{B:Ss}{c:Nat} (h:execs C B ℓ σ=some (.exc c,ℓ',σ')):retX (execs C B ℓ σ)=some (.exc c,σ'):=by rw [h];rfl
theorem isNo (t:Tr) (σ:H):cmpop .is t.v .none σ=some t.isNil:=by cases t <;> rfl
theorem isNn (t:Tr) (σ:H):cmpop .isnot t.v .none σ=some (!t.isNil):=by cases t <;> rfl
theorem eqT3 (x y:T3) (σ:H):cmpop .eq x.v y.v σ=some (decide (x=y)):=by
 have h:=eqV_tup σ [x.a,x.b,x.c] [y.a,y.b,y.c]
 have e:(decide ([x.a,x.b,x.c]=[y.a,y.b,y.c]))=decide (x=y):=by
  rw [decide_eq_decide,T3.eq_iff];simp
 rw [e] at h
 exact h
theorem neT3 (x y:T3) (σ:H):cmpop .ne x.v y.v σ=some (!decide (x=y)):=by
 have h:=eqT3 x y σ
 show (eqV σ x.v y.v).map (!·)=_
 rw [show eqV σ x.v y.v=some (decide (x=y)) from h];rfl
theorem ltT3 (x y:T3) (σ:H):cmpop .lt x.v y.v σ=some (T3.lt x y):=by
 show (if x.a=y.a then (if x.b=y.b then (if x.c=y.c then some false else some (decide (x.c < y.c))) else some (decide (x.b < y.b))) else some (decide (x.a < y.a)))=some (T3.lt x y)
 unfold T3.lt
 by_cases h1:x.a=y.a
 ·rw [if_pos h1]
  by_cases h2:x.b=y.b
  ·rw [if_pos h2]
   by_cases h3:x.c=y.c
   ·rw [if_pos h3];simp [h1,h2,h3]
   ·rw [if_neg h3];simp [h1,h2]
  ·rw [if_neg h2];simp [h1,h2]
 ·rw [if_neg h1];simp [h1]
theorem gtT3 (x y:T3) (σ:H):cmpop .gt x.v y.v σ=some (T3.lt y x):=ltT3 y x σ
theorem ev_ht (P:P2 pg) (d:Nat) (t:Tr) (σ:H):callF pg (d + 1) 7 [t.v] σ=some (.ok (.int t.ht),σ):=by
 cases t with
 | nil=>exact ev_fn0 P.f7 rfl (xs_ret (x_ift (e_cmp (e_var rfl) e_lit (isNo .nil σ)) (xs_ret (x_ret e_lit)))) rfl
 | node x l r=>exact ev_fn0 P.f7 rfl (xs_cons (x_iff (e_cmp (e_var rfl) e_lit (isNo (.node x l r) σ)) xs_nil) (xs_ret (x_ret (e_idx (e_var rfl) e_lit rfl)))) rfl
set_option tactic.hygienic true in
theorem mk_l (C:Cl) (x:T3) (l r:Tr) (σ:H):execs C (.cons S8_1 .nil) [some x.v,some l.v,some r.v,some (.int x.b),none,none,none,none,none,none,none,none] σ=some (.next,[some x.v,some l.v,some r.v,some (.int (if l.isNil then x.b else mx x.b l.rc)),none,none,none,none,none,none,none,none],σ):=by
 cases l with
 | nil=>exact xs_one (x_iff (e_cmp (e_var rfl) e_lit (isNn .nil σ)) xs_nil)
 | node y a b=>exact xs_one (x_ift (e_cmp (e_var rfl) e_lit (isNn (.node y a b) σ)) (xs_one (x_asg (e_blt (es_cons (e_var rfl) (es_cons (e_idx (e_var rfl) e_lit rfl) es_nil)) rfl) rfl)))
set_option tactic.hygienic true in
theorem mk_r (C:Cl) (x:T3) (l r:Tr) (σ:H):execs C (.cons S8_2 .nil) [some x.v,some l.v,some r.v,some (.int (if l.isNil then x.b else mx x.b l.rc)),none,none,none,none,none,none,none,none] σ=some (.next,[some x.v,some l.v,some r.v,some (.int (Tr.node x l r).rc),none,none,none,none,none,none,none,none],σ):=by
 cases r with
 | nil=>exact xs_one (x_iff (e_cmp (e_var rfl) e_lit (isNn .nil σ)) xs_nil)
 | node y a b=>exact xs_one (x_ift (e_cmp (e_var rfl) e_lit (isNn (.node y a b) σ)) (xs_one (x_asg (e_blt (es_cons (e_var rfl) (es_cons (e_idx (e_var rfl) e_lit rfl) es_nil)) rfl) rfl)))
set_option tactic.hygienic true in
theorem xs_of {C:Cl}{s:St} (h:execs C (.cons s .nil) ℓ σ=some (.next,ℓ',σ')):exec C s ℓ σ=some (.next,ℓ',σ'):=by
 have h:seqY (exec C s ℓ σ) (fun ℓ1 σ1=>some (.next,ℓ1,σ1))=some (.next,ℓ',σ'):=h
 cases e:exec C s ℓ σ with
 | none=>rw [e] at h;exact nn h
 | some y=>obtain ⟨f,l,t⟩:=y;rw [e] at h;cases f <;> first | exact h | cases h
theorem ev_mk (P:P2 pg) (d:Nat) (x:T3) (l r:Tr) (σ:H):callF pg (d + 2) 8 [x.v,l.v,r.v] σ=some (.ok (Tr.node x l r).v,σ):=by
 refine ev_fn0 P.f8 rfl (xs_cons (x_asg (e_idx (e_var rfl) e_lit rfl) rfl) (xs_cons (xs_of (mk_l _ x l r σ)) (xs_cons (xs_of (mk_r _ x l r σ)) (xs_ret (x_ret (e_tup (es_cons (e_var rfl) (es_cons (e_var rfl) (es_cons (e_var rfl) (es_cons (e_bin e_lit (e_blt (es_cons (e_call (es_cons (e_var rfl) es_nil) (ev_ht P d l σ)) (es_cons (e_call (es_cons (e_var rfl) es_nil) (ev_ht P d r σ)) es_nil)) rfl) (bin_add _ _ _)) (es_cons (e_var rfl) es_nil))))) rfl)))))) ?_
 exact Tr.v_below _ (.node x l r)
theorem hgt {C:Cl}{i j:Int}{a b:Ex} (ha:evalE C a ℓ σ=some (.ok (.int i),σ)) (hb:evalE C b ℓ σ=some (.ok (.int j),σ)):evalE C (.cmp a (.one .gt (.bin .add b (.lit (.int 1))))) ℓ σ=some (.ok (.bool (decide (j + 1 < i))),σ):=e_cmp ha (e_bin hb e_lit (bin_add _ _ _)) rfl
theorem ev_bal (P:P2 pg) (d:Nat) (x:T3) (l r:Tr) (σ:H):callF pg (d + 3) 9 [x.v,l.v,r.v] σ=some (.ok (Tr.bal x l r).v,σ):=by
 have hh:=fun t=>ev_ht P (d + 1) t σ
 have hb:∀t:Tr,below σ.length t.v=true:=fun t=>Tr.v_below _ t
 unfold Tr.bal
 by_cases c1:r.ht + 1 < l.ht
 ·rw [if_pos c1]
  have t1:=hgt (a:=Ex.call 7 (Es.cons (Ex.var 1) Es.nil)) (b:=Ex.call 7 (Es.cons (Ex.var 2) Es.nil)) (C:=⟨pg,callF pg (d + 2)⟩) (ℓ:=[some x.v,some l.v,some r.v,none,none,none,none,none,none,none,none,none]) (e_call (es_cons (e_var rfl) es_nil) (hh l)) (e_call (es_cons (e_var rfl) es_nil) (hh r))
  rw [decide_eq_true c1] at t1
  cases l with
  | nil=>have:=r.ht_nn;simp only [Tr.ht_0,Tr.ht_1] at c1;lia
  | node y a b=>
   unfold Tr.rotL;dsimp only
   by_cases c2:b.ht≤a.ht
   ·rw [if_pos c2]
    exact ev_fn0 P.f9 rfl (xs_ret (x_ift t1 (xs_ret (x_ift (e_cmp (e_call (es_cons (e_idx (e_var rfl) e_lit rfl) es_nil) (hh a)) (e_call (es_cons (e_idx (e_var rfl) e_lit rfl) es_nil) (hh b)) (geT c2)) (xs_ret (x_ret (e_call (es_cons (e_idx (e_var rfl) e_lit rfl) (es_cons (e_idx (e_var rfl) e_lit rfl) (es_cons (e_call (es_cons (e_var rfl) (es_cons (e_idx (e_var rfl) e_lit rfl) (es_cons (e_var rfl) es_nil))) (ev_mk P d x b r σ)) es_nil))) (ev_mk P d y a _ σ)))))))) (hb _)
   ·rw [if_neg c2]
    cases b with
    | nil=>have:=a.ht_nn;simp only [Tr.ht_0,Tr.ht_1] at c2;lia
    | node z e f=>
     exact ev_fn0 P.f9 rfl (xs_ret (x_ift t1 (xs_cons (x_iff (e_cmp (e_call (es_cons (e_idx (e_var rfl) e_lit rfl) es_nil) (hh a)) (e_call (es_cons (e_idx (e_var rfl) e_lit rfl) es_nil) (hh (.node z e f))) (geF c2)) xs_nil) (xs_cons (x_asg (e_idx (e_var rfl) e_lit rfl) rfl) (xs_ret (x_ret (e_call (es_cons (e_idx (e_var rfl) e_lit rfl) (es_cons (e_call (es_cons (e_idx (e_var rfl) e_lit rfl) (es_cons (e_idx (e_var rfl) e_lit rfl) (es_cons (e_idx (e_var rfl) e_lit rfl) es_nil))) (ev_mk P d y a e σ)) (es_cons (e_call (es_cons (e_var rfl) (es_cons (e_idx (e_var rfl) e_lit rfl) (es_cons (e_var rfl) es_nil))) (ev_mk P d x f r σ)) es_nil))) (ev_mk P d z _ _ σ)))))))) (hb _)
 ·rw [if_neg c1]
  have t1:=hgt (a:=Ex.call 7 (Es.cons (Ex.var 1) Es.nil)) (b:=Ex.call 7 (Es.cons (Ex.var 2) Es.nil)) (C:=⟨pg,callF pg (d + 2)⟩) (ℓ:=[some x.v,some l.v,some r.v,none,none,none,none,none,none,none,none,none]) (e_call (es_cons (e_var rfl) es_nil) (hh l)) (e_call (es_cons (e_var rfl) es_nil) (hh r))
  rw [decide_eq_false c1] at t1
  have t2:=hgt (a:=Ex.call 7 (Es.cons (Ex.var 2) Es.nil)) (b:=Ex.call 7 (Es.cons (Ex.var 1) Es.nil)) (C:=⟨pg,callF pg (d + 2)⟩) (ℓ:=[some x.v,some l.v,some r.v,none,none,none,none,none,none,none,none,none]) (e_call (es_cons (e_var rfl) es_nil) (hh r)) (e_call (es_cons (e_var rfl) es_nil) (hh l))
  by_cases c3:l.ht + 1 < r.ht
  ·rw [if_pos c3]
   rw [decide_eq_true c3] at t2
   cases r with
   | nil=>have:=l.ht_nn;simp only [Tr.ht_0,Tr.ht_1] at c3;lia
   | node y a b=>
    unfold Tr.rotR;dsimp only
    by_cases c2:a.ht≤b.ht
    ·rw [if_pos c2]
     exact ev_fn0 P.f9 rfl (xs_cons (x_iff t1 xs_nil) (xs_ret (x_ift t2 (xs_ret (x_ift (e_cmp (e_call (es_cons (e_idx (e_var rfl) e_lit rfl) es_nil) (hh b)) (e_call (es_cons (e_idx (e_var rfl) e_lit rfl) es_nil) (hh a)) (geT c2)) (xs_ret (x_ret (e_call (es_cons (e_idx (e_var rfl) e_lit rfl) (es_cons (e_call (es_cons (e_var rfl) (es_cons (e_var rfl) (es_cons (e_idx (e_var rfl) e_lit rfl) es_nil))) (ev_mk P d x l a σ)) (es_cons (e_idx (e_var rfl) e_lit rfl) es_nil))) (ev_mk P d y _ b σ))))))))) (hb _)
    ·rw [if_neg c2]
     cases a with
     | nil=>have:=b.ht_nn;simp only [Tr.ht_0,Tr.ht_1] at c2;lia
     | node z e f=>
      exact ev_fn0 P.f9 rfl (xs_cons (x_iff t1 xs_nil) (xs_ret (x_ift t2 (xs_cons (x_iff (e_cmp (e_call (es_cons (e_idx (e_var rfl) e_lit rfl) es_nil) (hh b)) (e_call (es_cons (e_idx (e_var rfl) e_lit rfl) es_nil) (hh (.node z e f))) (geF c2)) xs_nil) (xs_cons (x_asg (e_idx (e_var rfl) e_lit rfl) rfl) (xs_ret (x_ret (e_call (es_cons (e_idx (e_var rfl) e_lit rfl) (es_cons (e_call (es_cons (e_var rfl) (es_cons (e_var rfl) (es_cons (e_idx (e_var rfl) e_lit rfl) es_nil))) (ev_mk P d x l e σ)) (es_cons (e_call (es_cons (e_idx (e_var rfl) e_lit rfl) (es_cons (e_idx (e_var rfl) e_lit rfl) (es_cons (e_idx (e_var rfl) e_lit rfl) es_nil))) (ev_mk P d y f b σ)) es_nil))) (ev_mk P d z _ _ σ))))))))) (hb _)
  ·rw [if_neg c3]
   rw [decide_eq_false c3] at t2
   exact ev_fn0 P.f9 rfl (xs_cons (x_iff t1 xs_nil) (xs_cons (x_iff t2 xs_nil) (xs_ret (x_ret (e_call (es_cons (e_var rfl) (es_cons (e_var rfl) (es_cons (e_var rfl) es_nil))) (ev_mk P d x l r σ)))))) (hb _)
noncomputable def trX (t:Option Tr) (k:Nat) (σ:H):X V:=match t with
 | some t=>some (.ok t.v,σ)
 | none=>some (.exc k,σ)
set_option tactic.hygienic true in
theorem ev_ins (P:P2 pg) (x:T3) (σ:H):∀(t:Tr) (d:Nat),t.sz≤d→callF pg (d + 4) 10 [t.v,x.v] σ=trX (Tr.ins x t) 12 σ
 | .nil,d,_=>ev_fn0 P.f10 rfl (xs_ret (x_ift (e_cmp (e_var rfl) e_lit (isNo .nil σ)) (xs_ret (x_ret (e_call (es_cons (e_var rfl) (es_cons e_lit (es_cons e_lit es_nil))) (ev_mk P (d + 1) x .nil .nil σ)))))) (Tr.v_below _ _)
 | .node y l r,0,h=>absurd h (by simp [Tr.sz_0,Tr.sz_1])
 | .node y l r,d + 1,h=>by
  have hl:=ev_ins P x σ l d (by simp only [Tr.sz_0,Tr.sz_1] at h;exact ln3 [(.le (.a (.a .v0 .v2) .k1) (.a .v1 .k1))] (.le .v0 .v1) (.d 111) rfl h)
  have hr:=ev_ins P x σ r d (by simp only [Tr.sz_0,Tr.sz_1] at h;exact ln3 [(.le (.a (.a .v2 .v0) .k1) (.a .v1 .k1))] (.le .v0 .v1) (.d 111) rfl h)
  have b0:execs ⟨pg,callF pg (d + 4)⟩ (.cons S10_0 .nil) [some (Tr.node y l r).v,some x.v,none,none,none,none,none,none,none,none] σ=some (.next,[some (Tr.node y l r).v,some x.v,none,none,none,none,none,none,none,none],σ):=xs_one (x_iff (e_cmp (e_var rfl) e_lit (isNo (.node y l r) σ)) xs_nil)
  have t1:evalE ⟨pg,callF pg (d + 4)⟩ (Ex.cmp (Ex.var 1) (Ch.one Cop.eq (Ex.idx (Ex.var 0) (Ex.lit (V.int 0))))) [some (Tr.node y l r).v,some x.v,none,none,none,none,none,none,none,none] σ=some (.ok (.bool (decide (x=y))),σ):=e_cmp (e_var rfl) (e_idx (e_var rfl) e_lit rfl) (eqT3 x y σ)
  have t2:evalE ⟨pg,callF pg (d + 4)⟩ (Ex.cmp (Ex.var 1) (Ch.one Cop.lt (Ex.idx (Ex.var 0) (Ex.lit (V.int 0))))) [some (Tr.node y l r).v,some x.v,none,none,none,none,none,none,none,none] σ=some (.ok (.bool (T3.lt x y)),σ):=e_cmp (e_var rfl) (e_idx (e_var rfl) e_lit rfl) (ltT3 x y σ)
  rw [Tr.ins_1]
  by_cases c1:x=y
  ·rw [if_pos c1]
   rw [decide_eq_true c1] at t1
   exact ev_fnX P.f10 rfl (xs_cons (xs_of b0) (xs_exc (x_ift t1 (xs_exc x_raise))))
  ·rw [if_neg c1]
   rw [decide_eq_false c1] at t1
   by_cases c2:T3.lt x y=true
   ·rw [if_pos c2]
    rw [c2] at t2
    cases e:Tr.ins x l with
    | none=>
     rw [e] at hl
     exact ev_fnX P.f10 rfl (xs_cons (xs_of b0) (xs_cons (x_iff t1 xs_nil) (xs_exc (x_ift t2 (xs_exc (x_retX (evalX_exc (argsX_more (callX_of (e_idx (e_var rfl) e_lit rfl)) (argsX_exc (e_call (es_cons (e_idx (e_var rfl) e_lit rfl) (es_cons (e_var rfl) es_nil)) hl))))))))))
    | some t'=>
     rw [e] at hl
     exact ev_fn0 P.f10 rfl (xs_cons (xs_of b0) (xs_cons (x_iff t1 xs_nil) (xs_ret (x_ift t2 (xs_ret (x_ret (e_call (es_cons (e_idx (e_var rfl) e_lit rfl) (es_cons (e_call (es_cons (e_idx (e_var rfl) e_lit rfl) (es_cons (e_var rfl) es_nil)) hl) (es_cons (e_idx (e_var rfl) e_lit rfl) es_nil))) (ev_bal P (d + 1) y t' r σ)))))))) (Tr.v_below _ _)
   ·rw [if_neg c2]
    have c2':T3.lt x y=false:=by simpa using c2
    rw [c2'] at t2
    cases e:Tr.ins x r with
    | none=>
     rw [e] at hr
     exact ev_fnX P.f10 rfl (xs_cons (xs_of b0) (xs_cons (x_iff t1 xs_nil) (xs_cons (x_iff t2 xs_nil) (xs_exc (x_retX (evalX_exc (argsX_more (callX_of (e_idx (e_var rfl) e_lit rfl)) (argsX_more (callX_of (e_idx (e_var rfl) e_lit rfl)) (argsX_exc (e_call (es_cons (e_idx (e_var rfl) e_lit rfl) (es_cons (e_var rfl) es_nil)) hr))))))))))
    | some t'=>
     rw [e] at hr
     exact ev_fn0 P.f10 rfl (xs_cons (xs_of b0) (xs_cons (x_iff t1 xs_nil) (xs_cons (x_iff t2 xs_nil) (xs_ret (x_ret (e_call (es_cons (e_idx (e_var rfl) e_lit rfl) (es_cons (e_idx (e_var rfl) e_lit rfl) (es_cons (e_call (es_cons (e_idx (e_var rfl) e_lit rfl) (es_cons (e_var rfl) es_nil)) hr) es_nil))) (ev_bal P (d + 1) y l t' σ))))))) (Tr.v_below _ _)
set_option tactic.hygienic true in
theorem lm_while (C:Cl) (σ:H):∀(t:Tr) (n:Nat) (x:T3),t.isNil=false→t.sz < n→∃r,whileL (evalE C (Ex.cmp (Ex.idx (Ex.var 0) (Ex.lit (V.int 1))) (Ch.one Cop.isnot (Ex.lit V.none)))) (execs C (Ss.cons (St.asg (Tg.one 0) (Ex.idx (Ex.var 0) (Ex.lit (V.int 1)))) Ss.nil)) n [some t.v,none,none,none,none,none,none,none,none] σ=some (.next,[some (Tr.node (t.least x) .nil r).v,none,none,none,none,none,none,none,none],σ)
 | .nil,_,_,h,_=>by exact tf h
 | .node y l r,0,_,_,h=>absurd h (Nat.not_lt_zero _)
 | .node y l r,n + 1,x,_,h=>by
  have t1:evalE C (Ex.cmp (Ex.idx (Ex.var 0) (Ex.lit (V.int 1))) (Ch.one Cop.isnot (Ex.lit V.none))) [some (Tr.node y l r).v,none,none,none,none,none,none,none,none] σ=some (.ok (.bool (!l.isNil)),σ):=e_cmp (e_idx (e_var rfl) e_lit rfl) e_lit (isNn l σ)
  cases hn:l.isNil with
  | true=>
   cases l with
   | node _ _ _=>exact ft hn
   | nil=>exact ⟨r,while_end t1⟩
  | false=>
   refine rE (fun r' e=>?_) (lm_while C σ l n y hn (by simp only [Tr.sz_0,Tr.sz_1] at h;exact ln3 [(.lt (.a (.a .v0 .v2) .k1) (.a .v1 .k1))] (.lt .v0 .v1) (.d 111) rfl h))
   refine ⟨r',?_⟩
   have b1:execs C (Ss.cons (St.asg (Tg.one 0) (Ex.idx (Ex.var 0) (Ex.lit (V.int 1)))) Ss.nil) [some (Tr.node y l r).v,none,none,none,none,none,none,none,none] σ=some (.next,[some l.v,none,none,none,none,none,none,none,none],σ):=xs_one (x_asg (e_idx (e_var rfl) e_lit rfl) rfl)
   rw [hn] at t1
   exact (while_go t1 b1).trans e
set_option tactic.hygienic true in
theorem ev_least (P:P2 pg) (d:Nat) (t:Tr) (x:T3) (hn:t.isNil=false) (hs:t.sz < 2 ^ 16) (σ:H):callF pg (d + 1) 11 [t.v] σ=some (.ok (t.least x).v,σ):=by
 refine rE (fun r e=>?_) (lm_while ⟨pg,callF pg d⟩ σ t whileMax x hn hs)
 have e':exec ⟨pg,callF pg d⟩ S11_0 [some t.v,none,none,none,none,none,none,none,none] σ=some (.next,[some (Tr.node (t.least x) .nil r).v,none,none,none,none,none,none,none,none],σ):=e
 exact ev_fn0 P.f11 rfl (xs_cons e' (xs_ret (x_ret (e_idx (e_var rfl) e_lit rfl)))) rfl
set_option tactic.hygienic true in
theorem ev_del (P:P2 pg) (σ:H):∀(t:Tr) (x:T3) (d:Nat),t.sz≤d→t.sz < 2 ^ 16→callF pg (d + 4) 12 [t.v,x.v] σ=trX (Tr.del x t) 13 σ
 | .nil,x,d,_,_=>ev_fnX P.f12 rfl (xs_exc (x_ift (e_cmp (e_var rfl) e_lit (isNo .nil σ)) (xs_exc x_raise)))
 | .node y l r,x,0,h,_=>absurd h (by simp [Tr.sz_0,Tr.sz_1])
 | .node y l r,x,d + 1,h,h'=>by
  have hl:=ev_del P σ l x d (by simp only [Tr.sz_0,Tr.sz_1] at h;exact ln3 [(.le (.a (.a .v0 .v2) .k1) (.a .v1 .k1))] (.le .v0 .v1) (.d 111) rfl h) (by simp only [Tr.sz_0,Tr.sz_1] at h';exact ln3 [(.lt (.a (.a .v0 .v2) .k1) .v1)] (.lt .v0 .v1) (.d 111) rfl h')
  have hr:=ev_del P σ r x d (by simp only [Tr.sz_0,Tr.sz_1] at h;exact ln3 [(.le (.a (.a .v2 .v0) .k1) (.a .v1 .k1))] (.le .v0 .v1) (.d 111) rfl h) (by simp only [Tr.sz_0,Tr.sz_1] at h';exact ln3 [(.lt (.a (.a .v2 .v0) .k1) .v1)] (.lt .v0 .v1) (.d 111) rfl h')
  have hr2:=ev_del P σ r (r.least x) d (by simp only [Tr.sz_0,Tr.sz_1] at h;exact ln3 [(.le (.a (.a .v2 .v0) .k1) (.a .v1 .k1))] (.le .v0 .v1) (.d 111) rfl h) (by simp only [Tr.sz_0,Tr.sz_1] at h';exact ln3 [(.lt (.a (.a .v2 .v0) .k1) .v1)] (.lt .v0 .v1) (.d 111) rfl h')
  have b0:execs ⟨pg,callF pg (d + 4)⟩ (.cons S12_0 .nil) [some (Tr.node y l r).v,some x.v,none,none,none,none,none,none,none,none,none] σ=some (.next,[some (Tr.node y l r).v,some x.v,none,none,none,none,none,none,none,none,none],σ):=xs_one (x_iff (e_cmp (e_var rfl) e_lit (isNo (.node y l r) σ)) xs_nil)
  have t1:evalE ⟨pg,callF pg (d + 4)⟩ (Ex.cmp (Ex.var 1) (Ch.one Cop.lt (Ex.idx (Ex.var 0) (Ex.lit (V.int 0))))) [some (Tr.node y l r).v,some x.v,none,none,none,none,none,none,none,none,none] σ=some (.ok (.bool (T3.lt x y)),σ):=e_cmp (e_var rfl) (e_idx (e_var rfl) e_lit rfl) (ltT3 x y σ)
  have t2:evalE ⟨pg,callF pg (d + 4)⟩ (Ex.cmp (Ex.var 1) (Ch.one Cop.gt (Ex.idx (Ex.var 0) (Ex.lit (V.int 0))))) [some (Tr.node y l r).v,some x.v,none,none,none,none,none,none,none,none,none] σ=some (.ok (.bool (T3.lt y x)),σ):=e_cmp (e_var rfl) (e_idx (e_var rfl) e_lit rfl) (gtT3 x y σ)
  have t3:evalE ⟨pg,callF pg (d + 4)⟩ (Ex.cmp (Ex.idx (Ex.var 0) (Ex.lit (V.int 1))) (Ch.one Cop.is (Ex.lit V.none))) [some (Tr.node y l r).v,some x.v,none,none,none,none,none,none,none,none,none] σ=some (.ok (.bool l.isNil),σ):=e_cmp (e_idx (e_var rfl) e_lit rfl) e_lit (isNo l σ)
  have t4:evalE ⟨pg,callF pg (d + 4)⟩ (Ex.cmp (Ex.idx (Ex.var 0) (Ex.lit (V.int 2))) (Ch.one Cop.is (Ex.lit V.none))) [some (Tr.node y l r).v,some x.v,none,none,none,none,none,none,none,none,none] σ=some (.ok (.bool r.isNil),σ):=e_cmp (e_idx (e_var rfl) e_lit rfl) e_lit (isNo r σ)
  rw [Tr.del_1]
  by_cases c1:T3.lt x y=true
  ·rw [if_pos c1]
   rw [c1] at t1
   cases e:Tr.del x l with
   | none=>
    rw [e] at hl
    exact ev_fnX P.f12 rfl (xs_cons (xs_of b0) (xs_exc (x_ift t1 (xs_exc (x_retX (evalX_exc (argsX_more (callX_of (e_idx (e_var rfl) e_lit rfl)) (argsX_exc (e_call (es_cons (e_idx (e_var rfl) e_lit rfl) (es_cons (e_var rfl) es_nil)) hl)))))))))
   | some t'=>
    rw [e] at hl
    exact ev_fn0 P.f12 rfl (xs_cons (xs_of b0) (xs_ret (x_ift t1 (xs_ret (x_ret (e_call (es_cons (e_idx (e_var rfl) e_lit rfl) (es_cons (e_call (es_cons (e_idx (e_var rfl) e_lit rfl) (es_cons (e_var rfl) es_nil)) hl) (es_cons (e_idx (e_var rfl) e_lit rfl) es_nil))) (ev_bal P (d + 1) y t' r σ))))))) (Tr.v_below _ _)
  rw [if_neg c1]
  have c1':T3.lt x y=false:=by simpa using c1
  rw [c1'] at t1
  by_cases c2:T3.lt y x=true
  ·rw [if_pos c2]
   rw [c2] at t2
   cases e:Tr.del x r with
   | none=>
    rw [e] at hr
    exact ev_fnX P.f12 rfl (xs_cons (xs_of b0) (xs_cons (x_iff t1 xs_nil) (xs_exc (x_ift t2 (xs_exc (x_retX (evalX_exc (argsX_more (callX_of (e_idx (e_var rfl) e_lit rfl)) (argsX_more (callX_of (e_idx (e_var rfl) e_lit rfl)) (argsX_exc (e_call (es_cons (e_idx (e_var rfl) e_lit rfl) (es_cons (e_var rfl) es_nil)) hr)))))))))))
   | some t'=>
    rw [e] at hr
    exact ev_fn0 P.f12 rfl (xs_cons (xs_of b0) (xs_cons (x_iff t1 xs_nil) (xs_ret (x_ift t2 (xs_ret (x_ret (e_call (es_cons (e_idx (e_var rfl) e_lit rfl) (es_cons (e_idx (e_var rfl) e_lit rfl) (es_cons (e_call (es_cons (e_idx (e_var rfl) e_lit rfl) (es_cons (e_var rfl) es_nil)) hr) es_nil))) (ev_bal P (d + 1) y l t' σ)))))))) (Tr.v_below _ _)
  rw [if_neg c2]
  have c2':T3.lt y x=false:=by simpa using c2
  rw [c2'] at t2
  cases hnl:l.isNil with
  | true=>
   rw [hnl] at t3
   exact ev_fn0 P.f12 rfl (xs_cons (xs_of b0) (xs_cons (x_iff t1 xs_nil) (xs_cons (x_iff t2 xs_nil) (xs_ret (x_ift t3 (xs_ret (x_ret (e_idx (e_var rfl) e_lit rfl)))))))) (Tr.v_below _ _)
  | false=>
   rw [hnl] at t3
   cases hnr:r.isNil with
   | true=>
    rw [hnr] at t4
    exact ev_fn0 P.f12 rfl (xs_cons (xs_of b0) (xs_cons (x_iff t1 xs_nil) (xs_cons (x_iff t2 xs_nil) (xs_cons (x_iff t3 xs_nil) (xs_ret (x_ift t4 (xs_ret (x_ret (e_idx (e_var rfl) e_lit rfl))))))))) (Tr.v_below _ _)
   | false=>
    rw [hnr] at t4
    have hle:=ev_least P (d + 3) r x hnr (by simp only [Tr.sz_0,Tr.sz_1] at h';exact ln3 [(.lt (.a (.a .v2 .v0) .k1) .v1)] (.lt .v0 .v1) (.d 111) rfl h') σ
    cases e:Tr.del (r.least x) r with
    | none=>
     rw [e] at hr2
     exact ev_fnX P.f12 rfl (xs_cons (xs_of b0) (xs_cons (x_iff t1 xs_nil) (xs_cons (x_iff t2 xs_nil) (xs_cons (x_iff t3 xs_nil) (xs_cons (x_iff t4 xs_nil) (xs_cons (x_asg (e_call (es_cons (e_idx (e_var rfl) e_lit rfl) es_nil) hle) rfl) (xs_exc (x_retX (evalX_exc (argsX_more (callX_of (e_var rfl)) (argsX_more (callX_of (e_idx (e_var rfl) e_lit rfl)) (argsX_exc (e_call (es_cons (e_idx (e_var rfl) e_lit rfl) (es_cons (e_var rfl) es_nil)) hr2)))))))))))))
    | some t'=>
     rw [e] at hr2
     exact ev_fn0 P.f12 rfl (xs_cons (xs_of b0) (xs_cons (x_iff t1 xs_nil) (xs_cons (x_iff t2 xs_nil) (xs_cons (x_iff t3 xs_nil) (xs_cons (x_iff t4 xs_nil) (xs_cons (x_asg (e_call (es_cons (e_idx (e_var rfl) e_lit rfl) es_nil) hle) rfl) (xs_ret (x_ret (e_call (es_cons (e_var rfl) (es_cons (e_idx (e_var rfl) e_lit rfl) (es_cons (e_call (es_cons (e_idx (e_var rfl) e_lit rfl) (es_cons (e_var rfl) es_nil)) hr2) es_nil))) (ev_bal P (d + 1) (r.least x) l t' σ)))))))))) (Tr.v_below _ _)
end
noncomputable def okT (x:T3):Prop:=-10 ^ 60 < x.a∧x.a≤x.b∧x.b < 10 ^ 60∧-10 ^ 60 < x.c∧x.c < 10 ^ 60
theorem Tr.ask_len (lo hi:Int):∀t:Tr,(t.ask lo hi).length≤t.sz
 | .nil=>Nat.le_refl _
 | .node x l r=>by
  have h1:=Tr.ask_len lo hi l
  have h2:=Tr.ask_len lo hi r
  rw [Tr.ask_1]
  split
  ·simp
  ·split
   ·split <;> simp [Tr.sz_0,Tr.sz_1] <;> lia
   ·simp [Tr.sz_0,Tr.sz_1];exact ln3 [(.le .v0 .v1)] (.le .v0 (.a (.a .v1 .v2) .k1)) (.d 111) rfl h1
noncomputable def S15_0:St:=(.ife (.or (.cmp .v0 (.one .is (.lit .none))) (.cmp (.idx .v0 (.i 4)) (.one .lt .v1))) (.cons (.ret (.i 0)) .nil) .nil)
noncomputable def S15_1:St:=(.asg (.one 4) (.bin .add (.i 1) (.call 15 (.cons (.idx .v0 (.i 1)) (.cons .v1 (.cons .v2 (.cons .v3 .nil)))))))
noncomputable def S15_2:St:=(.ife (.cmp (.idx (.idx .v0 (.i 0)) (.i 0)) (.one .le .v2)) (.cons (.ife (.cmp (.idx (.idx .v0 (.i 0)) (.i 1)) (.one .ge .v1)) (.cons (.expr (.mth .append .v3 (.cons (.idx .v0 (.i 0)) .nil))) .nil) .nil) (.cons (.asg (.one 4) (.bin .add .v4 (.call 15 (.cons (.idx .v0 (.i 2)) (.cons .v1 (.cons .v2 (.cons .v3 .nil))))))) .nil)) .nil)
noncomputable def S15_3:St:=(.ret .v4)
noncomputable def B15:Ss:=.cons S15_0 <| .cons S15_1 <| .cons S15_2 <| .cons S15_3 <| .nil
noncomputable def S76_0:St:=(.expr (.call 2 (.cons .v1 (.cons .v2 .nil))))
noncomputable def S76_1:St:=(.asg (.one 3) (.lst .nil))
noncomputable def S76_2:St:=(.expr (.call 15 (.cons (.attr .v0 0) (.cons .v1 (.cons .v2 (.cons .v3 .nil))))))
noncomputable def S76_3:St:=(.ret .v3)
noncomputable def B76:Ss:=.cons S76_0 <| .cons S76_1 <| .cons S76_2 <| .cons S76_3 <| .nil
noncomputable def S77_0:St:=(.ret (.ucall 6 .v0 (.cons .v1 (.cons .v1 .nil))))
noncomputable def B77:Ss:=.cons S77_0 <| .nil
section
variable {pg:Pg}
theorem ev_st (P:P2 pg) (d:Nat) (x:T3) (σ:H) (ho:okT x):callF pg (d + 3) 3 [.int x.a,.int x.b,.int x.c] σ=some (.ok x.v,σ):=by
 revert ho;refine rAAAA fun h1 h2 h3 h4 h5=>?_
 exact ev_fn0 P.f3 rfl (xs_cons (x_expr (e_call (es_cons (e_var rfl) es_nil) (ev_whole P.f1 (d + 1) x.c h4 h5 σ))) (xs_cons (x_expr (e_call (es_cons (e_var rfl) (es_cons (e_var rfl) es_nil)) (ev_span P.f1 P.f2 d x.a x.b h1 h2 h3 σ))) (xs_ret (x_ret (e_tup (es_cons (e_var rfl) (es_cons (e_var rfl) (es_cons (e_var rfl) es_nil))) rfl))))) rfl
noncomputable def Wd (w n:Nat) (σ:H) (t:Tr) (m:Int):Prop:=σ[n]? = some (.ns [(0,t.v),(1,.int m)])∧σ[w]? = some (.inst 0 n)
theorem Wd.app {w n:Nat}{τ:H}{t:Tr}{m:Int} (h:Wd w n σ t m):Wd w n (σ++τ) t m:=⟨get_app h.1,get_app h.2⟩
theorem Wd.ns {w n:Nat}{t:Tr}{m:Int} (h:Wd w n σ t m):nsOf σ (.obj w)=some (n,[(0,t.v),(1,.int m)]):=by simp only [nsOf,h.2,h.1]
theorem Wd.mt {w n:Nat}{t:Tr}{m:Int} (h:Wd w n σ t m) (k:Nat):methOf pg σ (.obj w) k=pg.mt 0 k:=by simp only [methOf,h.2,h.1]
theorem Wd.ne {w n:Nat}{t:Tr}{m:Int} (h:Wd w n σ t m):w≠n:=fun e=>by have:=h.2;rw [e,h.1] at this;cases this
theorem Wd.set {w n:Nat}{t:Tr}{m:Int} (h:Wd w n σ t m) (t':Tr) (m':Int):Wd w n (setObj σ n (.ns [(0,t'.v),(1,.int m')])) t' m':=by
 have h0:=(List.getElem?_eq_some_iff.mp h.1).1
 exact ⟨by rw [setObj,List.getElem?_set_self h0],by rw [setObj,List.getElem?_set_ne (fun e=>h.ne e.symm)];exact h.2⟩
theorem set_get {o o':O}{k n:Nat} (h:σ[k]? = some o) (hn:k≠n):(setObj σ n o')[k]? = some o:=by rw [setObj,List.getElem?_set_ne (fun e=>hn e.symm)];exact h
set_option tactic.hygienic true in
theorem ev_asked (h15:pg.fn 15=some ⟨[0,1,2,3],13,B15,.raw⟩) (lo hi:Int) (m:Nat):∀(t:Tr) (d:Nat) (σ:H) (acc:List V),t.sz≤d→σ[m]? = some (.list acc)→acc.length + t.sz < lenMax→callF pg (d + 1) 15 [t.v,.int lo,.int hi,.obj m] σ=some (.ok (.int (t.cnt lo hi:Nat)),σ.set m (.list (acc++(t.ask lo hi).map T3.v)))
 | .nil,d,σ,acc,_,hm,_=>by
  have e:σ.set m (.list (acc++((Tr.nil).ask lo hi).map T3.v))=σ:=by
   refine byC fun hX=>?_;obtain ⟨h1,h2⟩:=List.getElem?_eq_some_iff.mp hm;refine hX ?_;clear hX
   rw [show acc++((Tr.nil).ask lo hi).map T3.v=acc by simp [Tr.ask_0],← h2,List.set_getElem_self]
  rw [e]
  exact ev_raw h15 rfl (rx_ret (xs_ret (x_ift (e_ort (e_cmp (e_var rfl) e_lit (isNo .nil σ))) (xs_ret (x_ret e_lit)))))
 | .node x l r,0,σ,acc,h,_,_=>absurd h (by simp [Tr.sz_0,Tr.sz_1])
 | .node x l r,d + 1,σ,acc,h,hm,hl=>by
  have hsz:l.sz + r.sz + 1=(Tr.node x l r).sz:=rfl
  have t0:evalE ⟨pg,callF pg (d + 1)⟩ (Ex.cmp (Ex.idx (Ex.var 0) (Ex.lit (V.int 4))) (Ch.one Cop.lt (Ex.var 1))) [some (Tr.node x l r).v,some (.int lo),some (.int hi),some (.obj m),none,none,none,none,none,none,none,none,none] σ=some (.ok (.bool (decide ((Tr.node x l r).rc < lo))),σ):=e_cmp (e_idx (e_var rfl) e_lit rfl) (e_var rfl) rfl
  have n0:evalE ⟨pg,callF pg (d + 1)⟩ (Ex.cmp (Ex.var 0) (Ch.one Cop.is (Ex.lit V.none))) [some (Tr.node x l r).v,some (.int lo),some (.int hi),some (.obj m),none,none,none,none,none,none,none,none,none] σ=some (.ok (.bool false),σ):=e_cmp (e_var rfl) e_lit (isNo (.node x l r) σ)
  rw [Tr.ask_1,Tr.cnt_1]
  by_cases c0:(Tr.node x l r).rc < lo
  ·rw [if_pos c0,if_pos c0]
   have e:σ.set m (.list (acc++([]:List T3).map T3.v))=σ:=by
    refine byC fun hX=>?_;obtain ⟨h1,h2⟩:=List.getElem?_eq_some_iff.mp hm;refine hX ?_;clear hX
    rw [show acc++([]:List T3).map T3.v=acc by simp,← h2,List.set_getElem_self]
   rw [e]
   rw [decide_eq_true c0] at t0
   exact ev_raw h15 rfl (rx_ret (xs_ret (x_ift (e_orf n0 t0) (xs_ret (x_ret e_lit)))))
  ·rw [if_neg c0,if_neg c0]
   rw [decide_eq_false c0] at t0
   have hmlt:=(List.getElem?_eq_some_iff.mp hm).1
   have e1:=ev_asked h15 lo hi m l d σ acc (by exact ln4 [(.le .v2 (.a .v1 .k1)),(.eq (.a (.a .v0 .v3) .k1) .v2)] (.le .v0 .v1) (.d 1111) rfl h hsz) hm (by exact ln5 [(.lt (.a .v0 .v3) .v2),(.eq (.a (.a .v1 .v4) .k1) .v3)] (.lt (.a .v0 .v1) .v2) (.d 1111) rfl hl hsz)
   have hq:(σ.set m (.list (acc++(l.ask lo hi).map T3.v)))[m]? = some (.list (acc++(l.ask lo hi).map T3.v)):=List.getElem?_set_self hmlt
   have hla:(l.ask lo hi).length≤l.sz:=Tr.ask_len lo hi l
   have s1:exec ⟨pg,callF pg (d + 1)⟩ S15_1 [some (Tr.node x l r).v,some (.int lo),some (.int hi),some (.obj m),none,none,none,none,none,none,none,none,none] σ=some (.next,[some (Tr.node x l r).v,some (.int lo),some (.int hi),some (.obj m),some (.int (1 + (l.cnt lo hi:Nat))),none,none,none,none,none,none,none,none],σ.set m (.list (acc++(l.ask lo hi).map T3.v))) :=
    x_asg (e_bin e_lit (e_call (es_cons (e_idx (e_var rfl) e_lit rfl) (es_cons (e_var rfl) (es_cons (e_var rfl) (es_cons (e_var rfl) es_nil)))) e1) (bin_add _ _ _)) rfl
   by_cases c1:x.a≤hi
   ·rw [if_pos c1,if_pos c1,show ((1 + l.cnt lo hi + r.cnt lo hi:Nat):Int)=1 + (l.cnt lo hi:Int) + (r.cnt lo hi:Int) by push_cast;rfl]
    by_cases c2:lo≤x.b
    ·rw [if_pos c2]
     have ha:(σ.set m (.list (acc++(l.ask lo hi).map T3.v))).set m (.list (acc++(l.ask lo hi).map T3.v++[x.v]))=σ.set m (.list (acc++(l.ask lo hi).map T3.v++[x.v])):=List.set_set ..
     have happ:mthV .append (.obj m) [x.v] (σ.set m (.list (acc++(l.ask lo hi).map T3.v)))=some (.none,σ.set m (.list (acc++(l.ask lo hi).map T3.v++[x.v]))):=by
      have hlt:(acc++(l.ask lo hi).map T3.v).length < lenMax:=by simp;exact ln6 [(.lt (.a .v0 .v3) .v2),(.eq (.a (.a .v4 .v5) .k1) .v3),(.le .v1 .v4)] (.lt (.a .v0 .v1) .v2) (.d 111101) rfl hl hsz hla
      simp only [mthV,objNo,Option.bind_some,listOf_get hq,appV,arg1_one,if_pos hlt,setObj,ha]
     have e2:=ev_asked h15 lo hi m r d (σ.set m (.list (acc++(l.ask lo hi).map T3.v++[x.v]))) (acc++(l.ask lo hi).map T3.v++[x.v]) (by exact ln4 [(.le .v2 (.a .v1 .k1)),(.eq (.a (.a .v3 .v0) .k1) .v2)] (.le .v0 .v1) (.d 1111) rfl h hsz) (List.getElem?_set_self hmlt) (by simp;exact ln6 [(.lt (.a .v0 .v4) .v3),(.eq (.a (.a .v5 .v2) .k1) .v4),(.le .v1 .v5)] (.lt (.a (.a .v0 (.a .v1 .k1)) .v2) .v3) (.d 111101) rfl hl hsz hla)
     rw [List.set_set] at e2
     refine ev_raw h15 rfl (rx_ret (ℓ':=[some (Tr.node x l r).v,some (.int lo),some (.int hi),some (.obj m),some (.int (1 + (l.cnt lo hi:Int) + (r.cnt lo hi:Int))),none,none,none,none,none,none,none,none]) ?_)
     refine xs_cons (x_iff (e_orf n0 t0) xs_nil) (xs_cons s1 (xs_cons (x_ift (e_cmp (e_idx (e_idx (e_var rfl) e_lit rfl) e_lit rfl) (e_var rfl) (leT c1)) (xs_cons (x_ift (e_cmp (e_idx (e_idx (e_var rfl) e_lit rfl) e_lit rfl) (e_var rfl) (geT c2)) (xs_one (x_expr (e_mth (e_var rfl) (listOf_get hq) (es_cons (e_idx (e_var rfl) e_lit rfl) es_nil) happ)))) (xs_one (x_asg (e_bin (e_var rfl) (e_call (es_cons (e_idx (e_var rfl) e_lit rfl) (es_cons (e_var rfl) (es_cons (e_var rfl) (es_cons (e_var rfl) es_nil)))) e2) (bin_add _ _ _)) rfl)))) ?_))
     have e:acc++(l.ask lo hi).map T3.v++[x.v]++(r.ask lo hi).map T3.v=acc++(l.ask lo hi++([x]++r.ask lo hi)).map T3.v:=by simp
     rw [← e]
     exact xs_ret (x_ret (e_var rfl))
    ·rw [if_neg c2]
     have e2:=ev_asked h15 lo hi m r d (σ.set m (.list (acc++(l.ask lo hi).map T3.v))) (acc++(l.ask lo hi).map T3.v) (by exact ln4 [(.le .v2 (.a .v1 .k1)),(.eq (.a (.a .v3 .v0) .k1) .v2)] (.le .v0 .v1) (.d 1111) rfl h hsz) hq (by simp;exact ln6 [(.lt (.a .v0 .v4) .v3),(.eq (.a (.a .v5 .v2) .k1) .v4),(.le .v1 .v5)] (.lt (.a (.a .v0 .v1) .v2) .v3) (.d 111101) rfl hl hsz hla)
     rw [List.set_set] at e2
     refine ev_raw h15 rfl (rx_ret (ℓ':=[some (Tr.node x l r).v,some (.int lo),some (.int hi),some (.obj m),some (.int (1 + (l.cnt lo hi:Int) + (r.cnt lo hi:Int))),none,none,none,none,none,none,none,none]) ?_)
     refine xs_cons (x_iff (e_orf n0 t0) xs_nil) (xs_cons s1 (xs_cons (x_ift (e_cmp (e_idx (e_idx (e_var rfl) e_lit rfl) e_lit rfl) (e_var rfl) (leT c1)) (xs_cons (x_iff (e_cmp (e_idx (e_idx (e_var rfl) e_lit rfl) e_lit rfl) (e_var rfl) (geF c2)) xs_nil) (xs_one (x_asg (e_bin (e_var rfl) (e_call (es_cons (e_idx (e_var rfl) e_lit rfl) (es_cons (e_var rfl) (es_cons (e_var rfl) (es_cons (e_var rfl) es_nil)))) e2) (bin_add _ _ _)) rfl)))) ?_))
     have e:acc++(l.ask lo hi).map T3.v++(r.ask lo hi).map T3.v=acc++(l.ask lo hi++([]++r.ask lo hi)).map T3.v:=by simp
     rw [← e]
     exact xs_ret (x_ret (e_var rfl))
   ·rw [if_neg c1,if_neg c1,show ((1 + l.cnt lo hi + 0:Nat):Int)=1 + (l.cnt lo hi:Int) by push_cast;rfl]
    refine ev_raw h15 rfl (rx_ret (ℓ':=[some (Tr.node x l r).v,some (.int lo),some (.int hi),some (.obj m),some (.int (1 + (l.cnt lo hi:Nat))),none,none,none,none,none,none,none,none]) ?_)
    rw [List.append_nil]
    exact xs_cons (x_iff (e_orf n0 t0) xs_nil) (xs_cons s1 (xs_cons (x_iff (e_cmp (e_idx (e_idx (e_var rfl) e_lit rfl) e_lit rfl) (e_var rfl) (leF c1)) xs_nil) (xs_ret (x_ret (e_var rfl)))))
theorem ev_meet8 (P:P2 pg) (h15:pg.fn 15=some ⟨[0,1,2,3],13,B15,.raw⟩) (h76:pg.fn 76=some ⟨[0,1,2],12,B76,.fresh⟩) (d:Nat) (lo hi:Int) (hl : -10 ^ 60 < lo) (hle:lo≤hi) (hh:hi < 10 ^ 60) {w n:Nat}{t:Tr}{m:Int} (hw:Wd w n σ t m) (hs:Srt3 t.tl) (hd:t.sz≤d) (hsz:t.sz < 1000):callF pg (d + 3) 76 [.obj w,.int lo,.int hi] σ=some (.ok (.obj σ.length),σ++[.list ((hits lo hi t.tl).map T3.v)]):=by
 have e:=ev_asked h15 lo hi σ.length t (d + 1) (σ++[.list []]) [] (by exact ln2 [(.le .v0 .v1)] (.le .v0 (.a .v1 .k1)) (.d 111) rfl hd) (by simp) (by simp [lenMax];exact ln1 [(.lt .v0 (.k 1000))] (.lt .v0 (.k 1000000)) (.d 111) rfl hsz)
 have e2:(σ++[O.list []]).set σ.length (O.list ([]++(t.ask lo hi).map T3.v))=σ++[O.list ((hits lo hi t.tl).map T3.v)]:=by rw [Tr.ask_hits lo hi t hs];simp
 rw [e2] at e
 refine ev_fnF h76 rfl (ℓ':=[some (.obj w),some (.int lo),some (.int hi),some (.obj σ.length),none,none,none,none,none,none,none,none]) (t:=[.list ((hits lo hi t.tl).map T3.v)]) (m:=σ.length) (l:=(hits lo hi t.tl).map T3.v) ?_ (Nat.le_refl _) (belows_t3 _ _) (by simp)
 exact xs_cons (x_expr (e_call (es_cons (e_var rfl) (es_cons (e_var rfl) es_nil)) (ev_span P.f1 P.f2 d lo hi hl hle hh σ))) (xs_cons (x_asg (e_lst es_nil rfl) rfl) (xs_cons (x_expr (e_call (es_cons (e_attr (e_var rfl) (Wd.app hw).ns rfl) (es_cons (e_var rfl) (es_cons (e_var rfl) (es_cons (e_var rfl) es_nil)))) e)) (xs_ret (x_ret (e_var rfl)))))
theorem ev_hold8 (P:P2 pg) (h15:pg.fn 15=some ⟨[0,1,2,3],13,B15,.raw⟩) (h76:pg.fn 76=some ⟨[0,1,2],12,B76,.fresh⟩) (h77:pg.fn 77=some ⟨[0,1],10,B77,.raw⟩) (m6:pg.mt 0 6=some 76) (d:Nat) (lo:Int) (hl : -10 ^ 60 < lo) (hh:lo < 10 ^ 60) {w n:Nat}{t:Tr}{m:Int} (hw:Wd w n σ t m) (hs:Srt3 t.tl) (hd:t.sz≤d) (hsz:t.sz < 1000):callF pg (d + 4) 77 [.obj w,.int lo] σ=some (.ok (.obj σ.length),σ++[.list ((hits lo lo t.tl).map T3.v)]) :=
 ev_raw h77 rfl (rx_ret (xs_ret (x_ret (e_ucall (e_var rfl) ((hw.mt 6).trans m6) (es_cons (e_var rfl) (es_cons (e_var rfl) es_nil)) (ev_meet8 P h15 h76 d lo lo hl (Int.le_refl _) hh hw hs hd hsz)))))
theorem ev_put (P : P2 pg) (d : Nat) (x : T3) (ho : okT x) {w n : Nat} {t : Tr} {m : Int} (hw : Wd w n σ t m) (hd : t.sz ≤ d) : callF pg (d + 5) 71 [.obj w, .int x.a, .int x.b, .int x.c] σ = (match Tr.ins x t with
  | some t'=>some (.ok .none,setObj σ n (.ns [(0,t'.v),(1,.int (m + 1))]))
  | none=>some (.exc 12,σ)):=by
 have a1:=e_attr (C:=⟨pg,callF pg (d + 4)⟩) (ℓ:=[some (.obj w),some (.int x.a),some (.int x.b),some (.int x.c),none,none,none,none,none,none,none,none]) (a:=.var 0) (k:=0) (e_var rfl) hw.ns rfl
 have a2:=e_call (C:=⟨pg,callF pg (d + 4)⟩) (ℓ:=[some (.obj w),some (.int x.a),some (.int x.b),some (.int x.c),none,none,none,none,none,none,none,none]) (es_cons (a:=.var 1) (e_var rfl) (es_cons (a:=.var 2) (e_var rfl) (es_cons (a:=.var 3) (e_var rfl) es_nil))) (ev_st P (d + 1) x σ ho)
 have hi:=ev_ins P x σ t d hd
 cases e:Tr.ins x t with
 | none=>
  rw [e] at hi
  exact ev_raw P.f71 rfl (rx_exc (xs_exc (x_asetX (evalX_call (argsX_of (es_cons a1 (es_cons a2 es_nil))) hi))))
 | some t'=>
  rw [e] at hi
  have hw2:=hw.set t' m
  refine ev_raw P.f71 rfl (rx_next (ℓ':=[some (.obj w),some (.int x.a),some (.int x.b),some (.int x.c),none,none,none,none,none,none,none,none]) (xs_cons (x_aset (evalX_call (argsX_of (es_cons a1 (es_cons a2 es_nil))) hi) (e_var rfl) hw.ns) ?_))
  have s2:=x_aset (C:=⟨pg,callF pg (d + 4)⟩) (ℓ:=[some (.obj w),some (.int x.a),some (.int x.b),some (.int x.c),none,none,none,none,none,none,none,none]) (k:=1) (evalX_of (e_bin (op:=.add) (e_attr (a:=.var 0) (k:=1) (e_var rfl) hw2.ns rfl) e_lit (bin_add m 1 _))) (e_var (i:=0) rfl) hw2.ns
  have e2:setObj (setObj σ n (.ns [(0,t'.v),(1,.int m)])) n (.ns [(0,t'.v),(1,.int (m + 1))])=setObj σ n (.ns [(0,t'.v),(1,.int (m + 1))]):=List.set_set ..
  rw [show setObj (setObj σ n (.ns [(0,t'.v),(1,.int m)])) (n,[(0,t'.v),(1,V.int m)]).1 (.ns (nsPut (n,[(0,t'.v),(1,V.int m)]).2 1 (.int (m + 1))))=setObj σ n (.ns [(0,t'.v),(1,.int (m + 1))]) from e2] at s2
  exact xs_one s2
theorem ev_take (P : P2 pg) (d : Nat) (x : T3) (ho : okT x) {w n : Nat} {t : Tr} {m : Int} (hw : Wd w n σ t m) (hd : t.sz ≤ d) (hsz : t.sz < 1000) : callF pg (d + 5) 72 [.obj w, .int x.a, .int x.b, .int x.c] σ = (match Tr.del x t with
  | some t'=>some (.ok .none,setObj σ n (.ns [(0,t'.v),(1,.int (m - 1))]))
  | none=>some (.exc 13,σ)):=by
 have a1:=e_attr (C:=⟨pg,callF pg (d + 4)⟩) (ℓ:=[some (.obj w),some (.int x.a),some (.int x.b),some (.int x.c),none,none,none,none,none,none,none,none]) (a:=.var 0) (k:=0) (e_var rfl) hw.ns rfl
 have a2:=e_call (C:=⟨pg,callF pg (d + 4)⟩) (ℓ:=[some (.obj w),some (.int x.a),some (.int x.b),some (.int x.c),none,none,none,none,none,none,none,none]) (es_cons (a:=.var 1) (e_var rfl) (es_cons (a:=.var 2) (e_var rfl) (es_cons (a:=.var 3) (e_var rfl) es_nil))) (ev_st P (d + 1) x σ ho)
 have hi:=ev_del P σ t x d hd (by lia)
 cases e:Tr.del x t with
 | none=>
  rw [e] at hi
  exact ev_raw P.f72 rfl (rx_exc (xs_exc (x_asetX (evalX_call (argsX_of (es_cons a1 (es_cons a2 es_nil))) hi))))
 | some t'=>
  rw [e] at hi
  have hw2:=hw.set t' m
  refine ev_raw P.f72 rfl (rx_next (ℓ':=[some (.obj w),some (.int x.a),some (.int x.b),some (.int x.c),none,none,none,none,none,none,none,none]) (xs_cons (x_aset (evalX_call (argsX_of (es_cons a1 (es_cons a2 es_nil))) hi) (e_var rfl) hw.ns) ?_))
  have s2:=x_aset (C:=⟨pg,callF pg (d + 4)⟩) (ℓ:=[some (.obj w),some (.int x.a),some (.int x.b),some (.int x.c),none,none,none,none,none,none,none,none]) (k:=1) (evalX_of (e_bin (op:=.sub) (e_attr (a:=.var 0) (k:=1) (e_var rfl) hw2.ns rfl) e_lit (bin_sub m 1 _))) (e_var (i:=0) rfl) hw2.ns
  have e2:setObj (setObj σ n (.ns [(0,t'.v),(1,.int m)])) n (.ns [(0,t'.v),(1,.int (m - 1))])=setObj σ n (.ns [(0,t'.v),(1,.int (m - 1))]):=List.set_set ..
  rw [show setObj (setObj σ n (.ns [(0,t'.v),(1,.int m)])) (n,[(0,t'.v),(1,V.int m)]).1 (.ns (nsPut (n,[(0,t'.v),(1,V.int m)]).2 1 (.int (m - 1))))=setObj σ n (.ns [(0,t'.v),(1,.int (m - 1))]) from e2] at s2
  exact xs_one s2
end
noncomputable def S34_0:St:=(.asg (.one 1) (.bin .sub (.bin .mod .v0 (.i 41)) (.i 20)))
noncomputable def S34_1:St:=(.asg (.one 2) (.bin .mod (.bin .fdiv .v0 (.i 41)) (.i 4)))
noncomputable def S34_2:St:=(.asg (.one 3) (.bin .add (.i 1) (.bin .mod (.bin .fdiv .v0 (.i 164)) (.i 3))))
noncomputable def S34_3:St:=(.asg (.one 4) (.bin .add (.i 1) (.bin .mod (.bin .fdiv .v0 (.i 492)) (.i 3))))
noncomputable def S34_4:St:=(.ret (.comp (.tup (.cons (.bin .add .v1 (.bin .mul .v2 .v6)) (.cons (.bin .add (.bin .add .v1 (.bin .mul .v2 .v6)) (.bin .mod .v6 .v3)) (.cons (.bin .fdiv .v6 .v4) .nil)))) 6 (.rng1 (.bin .add (.bin .mod (.bin .fdiv .v0 (.i 1476)) (.i 16)) (.i 4))) .nil))
noncomputable def B34:Ss:=.cons S34_0 <| .cons S34_1 <| .cons S34_2 <| .cons S34_3 <| .cons S34_4 <| .nil
noncomputable def S35_0:St:=(.asg (.one 2) (.idx .v1 (.bin .mod (.bin .fdiv .v0 (.i 3)) (.blt .len (.cons .v1 .nil)))))
noncomputable def S35_1:St:=(.ife (.cmp (.idx .v2 (.i 2)) (.one .gt (.i 0))) (.cons (.ret (.tup (.cons (.idx .v2 (.i 0)) (.cons (.idx .v2 (.i 1)) (.cons (.bin .sub (.idx .v2 (.i 2)) (.i 1)) .nil))))) .nil) .nil)
noncomputable def S35_2:St:=(.ret (.tup (.cons (.idx .v2 (.i 0)) (.cons (.idx .v2 (.i 1)) (.cons (.bin .add (.idx .v2 (.i 2)) (.i 1)) .nil)))))
noncomputable def B35:Ss:=.cons S35_0 <| .cons S35_1 <| .cons S35_2 <| .nil
noncomputable def S36_0:St:=(.ife (.and (.cmp (.bin .mod .v0 (.i 8)) (.one .eq (.i 7))) (.cmp (.blt .len (.cons .v2 .nil)) (.one .lt (.i 40)))) (.cons (.ret (.call 34 (.cons .v1 .nil))) .nil) .nil)
noncomputable def S36_1:St:=(.ife (.and (.cmp (.blt .len (.cons .v2 .nil)) (.one .gt (.i 0))) (.and (.cmp (.bin .mod .v0 (.i 8)) (.one .mem (.tup (.cons (.i 2) (.cons (.i 3) .nil))))) (.cmp (.bin .mod (.bin .fdiv .v1 (.i 5)) (.i 3)) (.one .eq (.i 0))))) (.cons (.ret (.lst (.cons (.call 35 (.cons .v1 (.cons .v2 .nil))) .nil))) .nil) .nil)
noncomputable def S36_2:St:=(.ife (.and (.cmp (.bin .mod .v0 (.i 8)) (.one .gt (.i 3))) (.cmp (.blt .len (.cons .v2 .nil)) (.one .gt (.i 0)))) (.cons (.ife (.cmp (.bin .mod .v0 (.i 8)) (.one .eq (.i 6))) (.cons (.ret (.slc (.slc .v2 (.yes (.bin .mod .v1 (.i 2))) .no (.yes (.i 2))) .no (.yes (.i 20)) .no)) .nil) .nil) (.cons (.ret (.lst (.cons (.idx .v2 (.bin .mod (.bin .fdiv .v1 (.i 3)) (.blt .len (.cons .v2 .nil)))) .nil))) .nil)) .nil)
noncomputable def S36_3:St:=(.ret (.lst (.cons (.call 17 (.cons .v1 .nil)) .nil)))
noncomputable def B36:Ss:=.cons S36_0 <| .cons S36_1 <| .cons S36_2 <| .cons S36_3 <| .nil
noncomputable def S39_0:St:=(.ife (.cmp (.idx .v1 (.i 2)) (.one .ne (.lit (.str { cps:=#[100,111,110,101] })))) (.cons (.ret .v0) .nil) .nil)
noncomputable def S39_1:St:=(.ife (.cmp (.idx .v1 (.i 0)) (.one .eq (.lit (.str { cps:=#[112,117,116] })))) (.cons (.ret (.blt .sorted (.cons (.bin .add .v0 (.lst (.cons (.idx .v1 (.i 1)) .nil))) .nil))) .nil) .nil)
noncomputable def S39_2:St:=(.ret (.comp .v3 3 (.ex .v0) (.cons (.cmp .v3 (.one .ne (.idx .v1 (.i 1)))) .nil)))
noncomputable def B39:Ss:=.cons S39_0 <| .cons S39_1 <| .cons S39_2 <| .nil
structure PWd (pg:Pg):Prop extends P2 pg where
 f16:pg.fn 16=some ⟨[0,1],10,B16,.pure⟩
 f17:pg.fn 17=some ⟨[0],12,B17,.pure⟩
 f25:pg.fn 25=some ⟨[0],9,B25,.pure⟩
 f34:pg.fn 34=some ⟨[0],13,B34,.fresh⟩
 f35:pg.fn 35=some ⟨[0,1],11,B35,.pure⟩
 f36:pg.fn 36=some ⟨[0,1,2],11,B36,.fresh⟩
 f39:pg.fn 39=some ⟨[0,1],10,B39,.fresh⟩
section
variable {pg:Pg}
abbrev f81:(81:Int)≠0∧(81:Int).natAbs < 2 ^ 256:=⟨by decide,by decide⟩
theorem fd (k:Nat) (h:0 < k∧k < 100000:=by decide):((k:Int))≠0∧((k:Int)).natAbs < 2 ^ 256:=⟨by exact ln1 [(.an (.lt .k0 .v0) (.lt .v0 (.k 100000)))] (.no (.zeq (.n .v0) .k0)) (.d 1101) rfl h,by have:((k:Int)).natAbs=k:=rfl;rw [this];exact Nat.lt_trans h.2 (by decide)⟩
noncomputable def tD (x:T3):PyData:=.tuple ([x.a,x.b,x.c].map PyData.int)
theorem toDs_t3 (σ:H):∀ts:List T3,(ts.map T3.v).mapM (toD 5 σ)=some (ts.map tD)
 | []=>rfl
 | x::r=>by
  have h1:toD 5 σ x.v=some (tD x):=toD_tup 3 σ [x.a,x.b,x.c]
  simp only [List.map_cons,List.mapM_cons,h1,toDs_t3 σ r];rfl
theorem toD_list {n:Nat}{ts:List T3} (h:σ[n]? = some (.list (ts.map T3.v))):toD 6 σ (.obj n)=some (.list (ts.map tD)):=by
 show (match σ[n]? with
  | some (.list l)=>(l.mapM (toD 5 σ)).map PyData.list
  | _=>.none)=_
 rw [h]
 show ((ts.map T3.v).mapM (toD 5 σ)).map _=_
 rw [toDs_t3];rfl
theorem eqvAll_t3:∀ts:List T3,PyData.eqvAll (ts.map tD) (ts.map tD)=true
 | []=>rfl
 | x::r=>by
  have h1:PyData.eqv (tD x) (tD x)=true:=by
   have:=eqvAll_int [x.a,x.b,x.c] [x.a,x.b,x.c]
   simp only [decide_true] at this
   exact this
  simp only [List.map_cons,PyData.eqvAll,h1,eqvAll_t3 r,Bool.and_self]
theorem eq_lists {i j:Nat}{ts:List T3} (h1:σ[i]? = some (.list (ts.map T3.v))) (h2:σ[j]? = some (.list (ts.map T3.v))):eqV σ (.obj i) (.obj j)=some true:=by
 unfold eqV
 rw [toD_list h1,toD_list h2]
 have:PyData.eqv (.list (ts.map tD)) (.list (ts.map tD))=true:=eqvAll_t3 ts
 show some (PyData.eqv (.list (ts.map tD)) (.list (ts.map tD)))=_
 rw [this]
theorem gl (σ:H) (o:O):(σ++[o])[σ.length]? = some o:=by simp
theorem cat_at {i j:Nat}{l l':List V} (h1:σ[i]? = some (.list l)) (h2:σ[j]? = some (.list l')) (h:(l++l').length≤lenMax):binop .add (.obj i) (.obj j) σ=some (.obj σ.length,σ++[.list (l++l')]):=by
 rw [bin_cat (listOf_get h1) (listOf_get h2),mkList_ok h]
theorem snoc_v (ts:List T3) (x:T3):ts.map T3.v++[x.v]=(ts++[x]).map T3.v:=by simp
end
structure Rw where
 x:T3
 d:Int
 h:Int
 c:Int
noncomputable def Rw.v (r:Rw):V:=.tup [r.x.v,.int r.d,.int r.h,.int r.c]
noncomputable def Tr.rows:Int→Tr→List Rw
 | _,.nil=>[]
 | d,.node x l r=>l.rows (d + 1)++⟨x,d,1 + mx l.ht r.ht,(Tr.node x l r).rc⟩::r.rows (d + 1)
theorem Tr.rows_len:∀(t:Tr) (d:Int),(t.rows d).length=t.sz
 | .nil,_=>rfl
 | .node x l r,d=>by simp only [Tr.rows,Tr.sz,List.length_append,List.length_cons,Tr.rows_len l,Tr.rows_len r];exact ln2 [] (.eq (.a .v0 (.a .v1 .k1)) (.a (.a .v0 .v1) .k1)) (.s (.d 11) (.d 11)) rfl
theorem Tr.rows_x:∀(t:Tr) (d:Int),(t.rows d).map Rw.x=t.tl
 | .nil,_=>rfl
 | .node x l r,d=>by simp only [Tr.rows,Tr.tl,List.map_append,List.map_cons,Tr.rows_x l,Tr.rows_x r]
theorem belows_rw (n:Nat):∀l:List Rw,belows n (l.map Rw.v)=true
 | []=>rfl
 | w::r=>by simp only [List.map_cons,belows,belows_rw n r,Bool.and_true];rfl
noncomputable def S14_0:St:=(.ife (.cmp .v0 (.one .is (.lit .none))) (.cons (.ret .v2) .nil) .nil)
noncomputable def S14_1:St:=(.expr (.call 14 (.cons (.idx .v0 (.i 1)) (.cons (.bin .add .v1 (.i 1)) (.cons .v2 .nil)))))
noncomputable def S14_2:St:=(.expr (.mth .append .v2 (.cons (.tup (.cons (.idx .v0 (.i 0)) (.cons .v1 (.cons (.idx .v0 (.i 3)) (.cons (.idx .v0 (.i 4)) .nil))))) .nil)))
noncomputable def S14_3:St:=(.ret (.call 14 (.cons (.idx .v0 (.i 2)) (.cons (.bin .add .v1 (.i 1)) (.cons .v2 .nil)))))
noncomputable def B14:Ss:=.cons S14_0 <| .cons S14_1 <| .cons S14_2 <| .cons S14_3 <| .nil
noncomputable def S78_0:St:=(.expr (.call 2 (.cons .v1 (.cons .v2 .nil))))
noncomputable def S78_1:St:=(.ret (.call 15 (.cons (.attr .v0 0) (.cons .v1 (.cons .v2 (.cons (.lst .nil) .nil))))))
noncomputable def B78:Ss:=.cons S78_0 <| .cons S78_1 <| .nil
noncomputable def S84_0:St:=(.ret (.call 14 (.cons (.attr .v0 0) (.cons (.i 0) (.cons (.lst .nil) .nil)))))
noncomputable def B84:Ss:=.cons S84_0 <| .nil
section
variable {pg:Pg}
theorem ev_walked (h14:pg.fn 14=some ⟨[0,1,2],11,B14,.raw⟩) (m:Nat):∀(t:Tr) (d:Nat) (k:Int) (σ:H) (acc:List V),t.sz≤d→σ[m]? = some (.list acc)→acc.length + t.sz < lenMax→callF pg (d + 1) 14 [t.v,.int k,.obj m] σ=some (.ok (.obj m),σ.set m (.list (acc++(t.rows k).map Rw.v)))
 | .nil,d,k,σ,acc,_,hm,_=>by
  have e:σ.set m (.list (acc++((Tr.nil).rows k).map Rw.v))=σ:=by
   refine byC fun hX=>?_;obtain ⟨h1,h2⟩:=List.getElem?_eq_some_iff.mp hm;refine hX ?_;clear hX
   rw [show acc++((Tr.nil).rows k).map Rw.v=acc by simp [Tr.rows],← h2,List.set_getElem_self]
  rw [e]
  exact ev_raw h14 rfl (rx_ret (xs_ret (x_ift (e_cmp (e_var rfl) e_lit (isNo .nil σ)) (xs_ret (x_ret (e_var rfl))))))
 | .node x l r,0,k,σ,acc,h,_,_=>absurd h (by simp [Tr.sz])
 | .node x l r,d + 1,k,σ,acc,h,hm,hl=>by
  have hsz:l.sz + r.sz + 1=(Tr.node x l r).sz:=rfl
  have hmlt:=(List.getElem?_eq_some_iff.mp hm).1
  have e1:=ev_walked h14 m l d (k + 1) σ acc (by exact ln4 [(.le .v2 (.a .v1 .k1)),(.eq (.a (.a .v0 .v3) .k1) .v2)] (.le .v0 .v1) (.d 1111) rfl h hsz) hm (by exact ln5 [(.lt (.a .v0 .v3) .v2),(.eq (.a (.a .v1 .v4) .k1) .v3)] (.lt (.a .v0 .v1) .v2) (.d 1111) rfl hl hsz)
  have hll:=l.rows_len (k + 1)
  generalize e2:σ.set m (.list (acc++(l.rows (k + 1)).map Rw.v))=s1 at e1
  have hq:s1[m]? = some (.list (acc++(l.rows (k + 1)).map Rw.v)):=e2 ▸ List.getElem?_set_self hmlt
  have hmlt1:=(List.getElem?_eq_some_iff.mp hq).1
  generalize hw:(⟨x,k,1 + mx l.ht r.ht,(Tr.node x l r).rc⟩ : Rw)=w
  have happ:mthV .append (.obj m) [w.v] s1=some (.none,s1.set m (.list (acc++(l.rows (k + 1)).map Rw.v++[w.v]))):=by
   have hlt:(acc++(l.rows (k + 1)).map Rw.v).length < lenMax:=by rw [List.length_append,List.length_map,hll];exact ln5 [(.lt (.a .v0 .v3) .v2),(.eq (.a (.a .v1 .v4) .k1) .v3)] (.lt (.a .v0 .v1) .v2) (.d 1111) rfl hl hsz
   simp only [mthV,objNo,Option.bind_some,listOf_get hq,appV,arg1_one,if_pos hlt,setObj]
  have e3:=ev_walked h14 m r d (k + 1) (s1.set m (.list (acc++(l.rows (k + 1)).map Rw.v++[w.v]))) (acc++(l.rows (k + 1)).map Rw.v++[w.v]) (by exact ln4 [(.le .v2 (.a .v1 .k1)),(.eq (.a (.a .v3 .v0) .k1) .v2)] (.le .v0 .v1) (.d 1111) rfl h hsz) (List.getElem?_set_self hmlt1) (by rw [List.length_append,List.length_append,List.length_map,hll,List.length_singleton];exact ln5 [(.lt (.a .v0 .v4) .v3),(.eq (.a (.a .v1 .v2) .k1) .v4)] (.lt (.a (.a (.a .v0 .v1) .k1) .v2) .v3) (.d 1111) rfl hl hsz)
  rw [← e2] at e3
  simp only [List.set_set] at e3
  have ee:acc++(l.rows (k + 1)).map Rw.v++[w.v]++(r.rows (k + 1)).map Rw.v=acc++((Tr.node x l r).rows k).map Rw.v:=by
   rw [Tr.rows,hw];simp
  rw [ee] at e3
  have e2':s1.set m (.list (acc++(l.rows (k + 1)).map Rw.v++[w.v]))=σ.set m (.list (acc++(l.rows (k + 1)).map Rw.v++[w.v])):=by rw [← e2,List.set_set]
  rw [e2'] at happ
  subst hw
  refine ev_raw h14 rfl (rx_ret (ℓ':=[some (Tr.node x l r).v,some (.int k),some (.obj m),none,none,none,none,none,none,none,none]) ?_)
  exact xs_cons (x_iff (e_cmp (e_var rfl) e_lit (isNo (.node x l r) σ)) xs_nil) (xs_cons (x_expr (e_call (es_cons (e_idx (e_var rfl) e_lit rfl) (es_cons (e_bin (e_var rfl) e_lit (bin_add _ _ _)) (es_cons (e_var rfl) es_nil))) e1)) (xs_cons (x_expr (e_mth (e_var rfl) (listOf_get hq) (es_cons (e_tup (es_cons (e_idx (e_var rfl) e_lit rfl) (es_cons (e_var rfl) (es_cons (e_idx (e_var rfl) e_lit rfl) (es_cons (e_idx (e_var rfl) e_lit rfl) es_nil)))) rfl) es_nil) happ)) (xs_ret (x_ret (e_call (es_cons (e_idx (e_var rfl) e_lit rfl) (es_cons (e_bin (e_var rfl) e_lit (bin_add _ _ _)) (es_cons (e_var rfl) es_nil))) e3)))))
theorem ev_boxes (h14:pg.fn 14=some ⟨[0,1,2],11,B14,.raw⟩) (h84:pg.fn 84=some ⟨[0],9,B84,.fresh⟩) (d:Nat) {w n:Nat}{t:Tr}{m:Int} (hw:Wd w n σ t m) (hd:t.sz≤d) (hsz:t.sz < 1000):callF pg (d + 2) 84 [.obj w] σ=some (.ok (.obj σ.length),σ++[.list ((t.rows 0).map Rw.v)]):=by
 have e:=ev_walked h14 σ.length t d 0 (σ++[.list []]) [] hd (gl σ _) (by rw [List.length_nil,Nat.zero_add];exact Nat.lt_trans hsz (by decide))
 have e2:(σ++[O.list []]).set σ.length (O.list ([]++(t.rows 0).map Rw.v))=σ++[O.list ((t.rows 0).map Rw.v)]:=by simp
 rw [e2] at e
 exact ev_fnF h84 rfl (xs_ret (x_ret (e_call (es_cons (e_attr (e_var rfl) hw.ns rfl) (es_cons e_lit (es_cons (e_lst es_nil rfl) es_nil))) e))) (Nat.le_refl _) (belows_rw _ _) (gl σ _)
theorem ev_looks (P:P2 pg) (h15:pg.fn 15=some ⟨[0,1,2,3],13,B15,.raw⟩) (h78:pg.fn 78=some ⟨[0,1,2],11,B78,.pure⟩) (d:Nat) (lo hi:Int) (hl : -10 ^ 60 < lo) (hle:lo≤hi) (hh:hi < 10 ^ 60) {w n:Nat}{t:Tr}{m:Int} (hw:Wd w n σ t m) (hd:t.sz≤d) (hsz:t.sz < 1000):callF pg (d + 3) 78 [.obj w,.int lo,.int hi] σ=some (.ok (.int (t.cnt lo hi:Nat)),σ):=by
 have e:=ev_asked h15 lo hi σ.length t (d + 1) (σ++[.list []]) [] (by exact ln2 [(.le .v0 .v1)] (.le .v0 (.a .v1 .k1)) (.d 111) rfl hd) (gl σ _) (by rw [List.length_nil,Nat.zero_add];exact Nat.lt_trans hsz (by decide))
 have e2:(σ++[O.list []]).set σ.length (O.list ([]++(t.ask lo hi).map T3.v))=σ++[O.list ((t.ask lo hi).map T3.v)]:=by simp
 rw [e2] at e
 exact ev_fn h78 rfl (xs_cons (x_expr (e_call (es_cons (e_var rfl) (es_cons (e_var rfl) es_nil)) (ev_span P.f1 P.f2 d lo hi hl hle hh σ))) (xs_ret (x_ret (e_call (es_cons (e_attr (e_var rfl) hw.ns rfl) (es_cons (e_var rfl) (es_cons (e_var rfl) (es_cons (e_lst es_nil rfl) es_nil)))) e)))) rfl
end
noncomputable def T13:Ex:=(.cmp .v0 (.one .isnot (.lit .none)))
noncomputable def R13:Ss:=(.cons (.ife (.cmp .v1 (.one .eq (.idx .v0 (.i 0)))) (.cons (.ret (.lit (.bool true))) .nil) .nil) (.cons (.ife (.cmp .v1 (.one .lt (.idx .v0 (.i 0)))) (.cons (.asg (.one 0) (.idx .v0 (.i 1))) .nil) (.cons (.asg (.one 0) (.idx .v0 (.i 2))) .nil)) .nil))
noncomputable def S13_0:St:=.whl T13 R13
noncomputable def S13_1:St:=(.ret (.lit (.bool false)))
noncomputable def B13:Ss:=.cons S13_0 <| .cons S13_1 <| .nil
noncomputable def S73_0:St:=(.ret (.call 13 (.cons (.attr .v0 0) (.cons (.call 3 (.cons .v1 (.cons .v2 (.cons .v3 .nil)))) .nil))))
noncomputable def B73:Ss:=.cons S73_0 <| .nil
noncomputable def S74_0:St:=(.ret (.comp (.idx .v2 (.i 0)) 2 (.ex (.ucall 14 .v0 .nil)) .nil))
noncomputable def B74:Ss:=.cons S74_0 <| .nil
noncomputable def Tr.has (x:T3):Tr→Bool
 | .nil=>false
 | .node y l r=>if x=y then true else if T3.lt x y=true then l.has x else r.has x
set_option tactic.hygienic true in
theorem hs_while (C:Cl) (σ:H) (x:T3):∀(t:Tr) (n:Nat),t.sz < n→∃ℓ',whileL (evalE C T13) (execs C R13) n [some t.v,some x.v,none,none,none,none,none,none,none,none] σ=some (if t.has x=true then .ret (.bool true) else .next,ℓ',σ)
 | _,0,h=>absurd h (Nat.not_lt_zero _)
 | .nil,n + 1,_=>by
  have t1:evalE C T13 [some Tr.nil.v,some x.v,none,none,none,none,none,none,none,none] σ=some (.ok (.bool false),σ):=e_cmp (e_var rfl) e_lit (isNn .nil σ)
  exact ⟨_,while_end t1⟩
 | .node y l r,n + 1,h=>by
  have hz:(Tr.node y l r).sz=l.sz + r.sz + 1:=rfl
  have t1:evalE C T13 [some (Tr.node y l r).v,some x.v,none,none,none,none,none,none,none,none] σ=some (.ok (.bool true),σ):=e_cmp (e_var rfl) e_lit (isNn (.node y l r) σ)
  have t2:evalE C (Ex.cmp (Ex.var 1) (Ch.one Cop.eq (Ex.idx (Ex.var 0) (Ex.lit (V.int 0))))) [some (Tr.node y l r).v,some x.v,none,none,none,none,none,none,none,none] σ=some (.ok (.bool (decide (x=y))),σ):=e_cmp (e_var rfl) (e_idx (e_var rfl) e_lit rfl) (eqT3 x y σ)
  have t3:evalE C (Ex.cmp (Ex.var 1) (Ch.one Cop.lt (Ex.idx (Ex.var 0) (Ex.lit (V.int 0))))) [some (Tr.node y l r).v,some x.v,none,none,none,none,none,none,none,none] σ=some (.ok (.bool (T3.lt x y)),σ):=e_cmp (e_var rfl) (e_idx (e_var rfl) e_lit rfl) (ltT3 x y σ)
  by_cases e:x=y
  ·rw [decide_eq_true e] at t2
   have b1:execs C R13 [some (Tr.node y l r).v,some x.v,none,none,none,none,none,none,none,none] σ=some (.ret (.bool true),[some (Tr.node y l r).v,some x.v,none,none,none,none,none,none,none,none],σ):=xs_ret (x_ift t2 (xs_ret (x_ret e_lit)))
   exact ⟨_,by rw [while_ret t1 b1,show (Tr.node y l r).has x=true by unfold Tr.has;rw [if_pos e]];rfl⟩
  ·rw [decide_eq_false e] at t2
   by_cases c:T3.lt x y=true
   ·rw [c] at t3
    have b1:execs C R13 [some (Tr.node y l r).v,some x.v,none,none,none,none,none,none,none,none] σ=some (.next,[some l.v,some x.v,none,none,none,none,none,none,none,none],σ):=xs_cons (x_iff t2 xs_nil) (xs_one (x_ift t3 (xs_one (x_asg (e_idx (e_var rfl) e_lit rfl) rfl))))
    refine rE (fun ℓ' i=>?_) (hs_while C σ x l n (by exact ln4 [(.lt .v2 (.a .v1 .k1)),(.eq .v2 (.a (.a .v0 .v3) .k1))] (.lt .v0 .v1) (.d 11101) rfl h hz))
    exact ⟨ℓ',by rw [while_go t1 b1,show (Tr.node y l r).has x=l.has x by rw [Tr.has,if_neg e,if_pos c]];exact i⟩
   ·rw [Bool.eq_false_iff.mpr c] at t3
    have b1:execs C R13 [some (Tr.node y l r).v,some x.v,none,none,none,none,none,none,none,none] σ=some (.next,[some r.v,some x.v,none,none,none,none,none,none,none,none],σ):=xs_cons (x_iff t2 xs_nil) (xs_one (x_iff t3 (xs_one (x_asg (e_idx (e_var rfl) e_lit rfl) rfl))))
    refine rE (fun ℓ' i=>?_) (hs_while C σ x r n (by exact ln4 [(.lt .v2 (.a .v1 .k1)),(.eq .v2 (.a (.a .v3 .v0) .k1))] (.lt .v0 .v1) (.d 11101) rfl h hz))
    exact ⟨ℓ',by rw [while_go t1 b1,show (Tr.node y l r).has x=r.has x by rw [Tr.has,if_neg e,if_neg c]];exact i⟩
section
variable {pg:Pg}
theorem ev_has (h13:pg.fn 13=some ⟨[0,1],10,B13,.pure⟩) (d:Nat) (t:Tr) (x:T3) (hs:t.sz < 2 ^ 16) (σ:H):callF pg (d + 1) 13 [t.v,x.v] σ=some (.ok (.bool (t.has x)),σ):=by
 refine rE (fun ℓ' e=>?_) (hs_while ⟨pg,callF pg d⟩ σ x t whileMax hs)
 cases c:t.has x with
 | true=>
  rw [c,if_pos rfl] at e
  exact ev_fn0 h13 rfl (xs_ret (show exec ⟨pg,callF pg d⟩ S13_0 _ σ=_ from e)) rfl
 | false=>
  rw [c,if_neg (by decide)] at e
  exact ev_fn0 h13 rfl (xs_cons (show exec ⟨pg,callF pg d⟩ S13_0 _ σ=_ from e) (xs_ret (x_ret e_lit))) rfl
theorem ev_keeps (P:P2 pg) (h13:pg.fn 13=some ⟨[0,1],10,B13,.pure⟩) (h73:pg.fn 73=some ⟨[0,1,2,3],12,B73,.pure⟩) (d:Nat) {w n:Nat}{t:Tr}{m:Int} (hw:Wd w n σ t m) (x:T3) (ho:okT x) (hs:t.sz < 2 ^ 16):callF pg (d + 4) 73 [.obj w,.int x.a,.int x.b,.int x.c] σ=some (.ok (.bool (t.has x)),σ) :=
 ev_fn0 h73 rfl (xs_ret (x_ret (e_call (es_cons (e_attr (e_var rfl) hw.ns rfl) (es_cons (e_call (es_cons (e_var rfl) (es_cons (e_var rfl) (es_cons (e_var rfl) es_nil))) (ev_st P d x σ ho)) es_nil)) (ev_has h13 (d + 2) t x hs σ)))) rfl
theorem ev_listed (h14:pg.fn 14=some ⟨[0,1,2],11,B14,.raw⟩) (h84:pg.fn 84=some ⟨[0],9,B84,.fresh⟩) (h74:pg.fn 74=some ⟨[0],9,B74,.fresh⟩) (m14:pg.mt 0 14=some 84) (d:Nat) {w n:Nat}{t:Tr}{m:Int} (hw:Wd w n σ t m) (hd:t.sz≤d) (hsz:t.sz < 1000):callF pg (d + 3) 74 [.obj w] σ=some (.ok (.obj σ.length),σ++[.list (t.tl.map T3.v)]):=by
 have hb:=ev_boxes h14 h84 d hw hd hsz
 have c:=comp_map (C:=⟨pg,callF pg (d + 2)⟩) (elt:=Ex.idx (Ex.var 2) (Ex.lit (V.int 0))) (tg:=2) (it:=It.ex (Ex.ucall 14 (Ex.var 0) Es.nil)) (ifs:=Es.nil) (ℓ:=[some (.obj w),none,none,none,none,none,none,none,none]) Rw.v (fun w:Rw=>some w.x.v) (it_obj (e_ucall (e_var rfl) ((hw.mt 14).trans m14) es_nil hb) (gl σ _)) (gl σ _) (Nat.le_of_ble_eq_true rfl) (by rw [Tr.rows_len];exact Nat.le_trans (Nat.le_of_lt hsz) (by decide)) fun y u_=>cb_t (α:=Unit) if_nil (e_idx (e_var rfl) e_lit rfl)
 rw [List.filterMap_eq_map',show ((t.rows 0).map fun w:Rw=>w.x.v)=t.tl.map T3.v by rw [← Tr.rows_x t 0,List.map_map];rfl] at c
 exact ev_fnF (l:=t.tl.map T3.v) (t:=[O.list ((t.rows 0).map Rw.v),O.list (t.tl.map T3.v)]) h74 rfl (by rw [show σ++[O.list ((t.rows 0).map Rw.v),O.list (t.tl.map T3.v)]=σ++[O.list ((t.rows 0).map Rw.v)]++[O.list (t.tl.map T3.v)] by simp];exact xs_ret (x_ret c)) (by simp) (belows_t3 _ _) (by simp)
end
end Mini.Internal
set_option exponentiation.threshold 2000
namespace Mini.Internal
open PySem
variable {ρ ρ' ρ1:List Addr}{σ σ' σ1:H}{s s' s1:Shared}{h h':Heap}{ℓ ℓ':L}
noncomputable def S4_0:St:=(.expr (.call 2 (.cons .v1 (.cons .v2 .nil))))
noncomputable def S4_1:St:=(.asg (.one 3) (.lst .nil))
noncomputable def S4_2:St:=(.asg (.one 4) .v1)
noncomputable def S4_3:St:=(.for_ (.one 5) (.ex .v0) (.cons (.ife (.cmp (.idx .v5 (.i 0)) (.one .gt .v2)) (.cons .brk .nil) .nil) (.cons (.ife (.cmp (.idx .v5 (.i 1)) (.one .ge .v4)) (.cons (.ife (.cmp (.idx .v5 (.i 0)) (.one .gt .v4)) (.cons (.expr (.mth .append .v3 (.cons (.tup (.cons .v4 (.cons (.bin .sub (.idx .v5 (.i 0)) (.i 1)) .nil))) .nil))) .nil) .nil) (.cons (.asg (.one 4) (.bin .add (.idx .v5 (.i 1)) (.i 1))) .nil)) .nil) .nil)))
noncomputable def S4_4:St:=(.ife (.cmp .v4 (.one .le .v2)) (.cons (.expr (.mth .append .v3 (.cons (.tup (.cons .v4 (.cons .v2 .nil))) .nil))) .nil) .nil)
noncomputable def S4_5:St:=(.ret .v3)
noncomputable def B4:Ss:=.cons S4_0 <| .cons S4_1 <| .cons S4_2 <| .cons S4_3 <| .cons S4_4 <| .cons S4_5 <| .nil
noncomputable def S6_0:St:=(.expr (.call 2 (.cons .v1 (.cons .v2 .nil))))
noncomputable def S6_1:St:=(.asg (.one 3) (.blt .sorted (.cons (.comp (.blt .max (.cons .v1 (.cons (.idx .v9 (.i 0)) .nil))) 9 (.ex .v0) (.cons (.and (.cmp (.idx .v9 (.i 0)) (.one .le .v2)) (.cmp (.idx .v9 (.i 1)) (.one .ge .v1))) .nil)) .nil)))
noncomputable def S6_2:St:=(.asg (.one 4) (.blt .sorted (.cons (.comp (.idx .v9 (.i 1)) 9 (.ex .v0) (.cons (.and (.cmp (.idx .v9 (.i 0)) (.one .le .v2)) (.cmp (.idx .v9 (.i 1)) (.one .ge .v1))) .nil)) .nil)))
noncomputable def S6_3:St:=(.asg (.one 5) (.tup (.cons (.i 0) (.cons .v1 .nil))))
noncomputable def S6_4:St:=(.asg (.one 6) (.i 0))
noncomputable def S6_5:St:=(.for_ (.one 7) (.rng1 (.blt .len (.cons .v3 .nil))) (.cons (.whl (.cmp (.idx .v4 .v6) (.one .lt (.idx .v3 .v7))) (.cons (.asg (.one 6) (.bin .add .v6 (.i 1))) .nil)) (.cons (.ife (.cmp (.bin .sub (.bin .add .v7 (.i 1)) .v6) (.one .gt (.idx .v5 (.i 0)))) (.cons (.asg (.one 5) (.tup (.cons (.bin .sub (.bin .add .v7 (.i 1)) .v6) (.cons (.idx .v3 .v7) .nil)))) .nil) .nil) .nil)))
noncomputable def S6_6:St:=(.ret .v5)
noncomputable def B6:Ss:=.cons S6_0 <| .cons S6_1 <| .cons S6_2 <| .cons S6_3 <| .cons S6_4 <| .cons S6_5 <| .cons S6_6 <| .nil
noncomputable def S79_0:St:=(.ret (.call 4 (.cons (.ucall 4 .v0 .nil) (.cons .v1 (.cons .v2 .nil)))))
noncomputable def B79:Ss:=.cons S79_0 <| .nil
noncomputable def S81_0:St:=(.ret (.call 6 (.cons (.ucall 4 .v0 .nil) (.cons .v1 (.cons .v2 .nil)))))
noncomputable def B81:Ss:=.cons S81_0 <| .nil
noncomputable def S19_0:St:=(.ife (.cmp (.bin .mod .v0 (.i 5)) (.one .eq (.i 0))) (.cons (.ret (.idx (.lst (.cons (.bin .pow (.i 10) (.i 60)) (.cons (.bin .sub (.i 0) (.bin .pow (.i 10) (.i 60))) (.cons (.lit (.bool true)) (.cons (.lit (.bool false)) (.cons (.lit .none) (.cons (.lit (.str { cps:=#[55] })) (.cons (.tup (.cons (.i 1) .nil)) (.cons (.lst (.cons (.i 2) .nil)) .nil))))))))) (.bin .mod (.bin .fdiv .v0 (.i 5)) (.i 8)))) .nil) .nil)
noncomputable def S19_1:St:=(.ife (.cmp (.bin .mod .v0 (.i 5)) (.one .eq (.i 1))) (.cons (.ret (.idx (.lst (.cons (.bin .sub (.bin .pow (.i 10) (.i 60)) (.i 1)) (.cons (.bin .sub (.i 1) (.bin .pow (.i 10) (.i 60))) (.cons (.bin .pow (.i 10) (.i 59)) (.cons (.bin .sub (.i 0) (.bin .pow (.i 10) (.i 59))) .nil))))) (.bin .mod (.bin .fdiv .v0 (.i 5)) (.i 4)))) .nil) .nil)
noncomputable def S19_2:St:=(.ret (.bin .sub (.bin .mod (.bin .fdiv .v0 (.i 5)) (.i 19)) (.i 9)))
noncomputable def B19:Ss:=.cons S19_0 <| .cons S19_1 <| .cons S19_2 <| .nil
noncomputable def S20_0:St:=(.ret (.and (.blt .isinstance (.cons .v0 (.cons (.ty 0) .nil))) (.and (.not (.blt .isinstance (.cons .v0 (.cons (.ty 1) .nil)))) (.cmp (.bin .sub (.i 0) (.bin .pow (.i 10) (.i 60))) (.more .lt .v0 (.one .lt (.bin .pow (.i 10) (.i 60))))))))
noncomputable def B20:Ss:=.cons S20_0 <| .nil
noncomputable def S21_0:St:=(.ife (.cmp .v0 (.one .eq (.i 0))) (.cons (.ret (.call 20 (.cons .v1 .nil))) .nil) .nil)
noncomputable def S21_1:St:=(.ife (.or (.not (.call 20 (.cons .v1 .nil))) (.or (.not (.call 20 (.cons .v2 .nil))) (.cmp .v1 (.one .gt .v2)))) (.cons (.ret (.lit (.bool false))) .nil) .nil)
noncomputable def S21_2:St:=(.ret (.or (.cmp .v0 (.one .lt (.i 7))) (.call 20 (.cons .v3 .nil))))
noncomputable def B21:Ss:=.cons S21_0 <| .cons S21_1 <| .cons S21_2 <| .nil
noncomputable def S22_0:St:=(.ife (.cmp .v1 (.one .eq (.i 0))) (.cons (.ret (.ucall 7 .v0 (.cons .v2 .nil))) .nil) .nil)
noncomputable def S22_1:St:=(.ife (.cmp .v1 (.one .eq (.i 1))) (.cons (.ret (.ucall 6 .v0 (.cons .v2 (.cons .v3 .nil)))) .nil) .nil)
noncomputable def S22_2:St:=(.ife (.cmp .v1 (.one .eq (.i 2))) (.cons (.ret (.ucall 8 .v0 (.cons .v2 (.cons .v3 .nil)))) .nil) .nil)
noncomputable def S22_3:St:=(.ife (.cmp .v1 (.one .eq (.i 3))) (.cons (.ret (.ucall 9 .v0 (.cons .v2 (.cons .v3 .nil)))) .nil) .nil)
noncomputable def S22_4:St:=(.ife (.cmp .v1 (.one .eq (.i 4))) (.cons (.ret (.ucall 11 .v0 (.cons .v2 (.cons .v3 .nil)))) .nil) .nil)
noncomputable def S22_5:St:=(.ife (.cmp .v1 (.one .eq (.i 5))) (.cons (.ret (.call 4 (.cons (.lst (.cons (.tup (.cons (.i 0) (.cons (.i 0) (.cons (.i 0) .nil)))) .nil)) (.cons .v2 (.cons .v3 .nil))))) .nil) .nil)
noncomputable def S22_6:St:=(.ife (.cmp .v1 (.one .eq (.i 6))) (.cons (.ret (.call 6 (.cons (.lst (.cons (.tup (.cons (.i 0) (.cons (.i 0) (.cons (.i 0) .nil)))) .nil)) (.cons .v2 (.cons .v3 .nil))))) .nil) .nil)
noncomputable def S22_7:St:=(.ife (.cmp .v1 (.one .eq (.i 7))) (.cons (.ret (.call 3 (.cons .v2 (.cons .v3 (.cons .v4 .nil))))) .nil) .nil)
noncomputable def S22_8:St:=(.ife (.cmp .v1 (.one .eq (.i 8))) (.cons (.ret (.ucall 3 .v0 (.cons .v2 (.cons .v3 (.cons .v4 .nil))))) .nil) .nil)
noncomputable def S22_9:St:=(.ife (.cmp .v1 (.one .eq (.i 9))) (.cons (.ret (.ucall 1 .v0 (.cons .v2 (.cons .v3 (.cons .v4 .nil))))) .nil) .nil)
noncomputable def S22_10:St:=(.ret (.ucall 2 .v0 (.cons .v2 (.cons .v3 (.cons .v4 .nil)))))
noncomputable def B22:Ss:=.cons S22_0 <| .cons S22_1 <| .cons S22_2 <| .cons S22_3 <| .cons S22_4 <| .cons S22_5 <| .cons S22_6 <| .cons S22_7 <| .cons S22_8 <| .cons S22_9 <| .cons S22_10 <| .nil
noncomputable def S23_0:St:=(.asg (.one 1) (.lst (.cons (.blt .isinstance (.cons .v0 (.cons (.ty 11) .nil))) (.cons (.blt .isinstance (.cons .v0 (.cons (.ty 12) .nil))) (.cons (.blt .isinstance (.cons .v0 (.cons (.ty 13) .nil))) .nil)))))
noncomputable def S23_1:St:=(.ife (.or (.cmp (.blt .len (.cons (.comp .v3 3 (.exL .v1) (.cons .v3 .nil)) .nil)) (.one .ne (.i 1))) (.not (.blt .isinstance (.cons .v0 (.cons (.ty 4) .nil))))) (.cons (.ret (.lit (.str { cps:=#[97,110,111,116,104,101,114,32,111,110,101] }))) .nil) .nil)
noncomputable def S23_2:St:=(.ret (.idx (.lst (.cons (.lit (.str { cps:=#[98,97,100] })) (.cons (.lit (.str { cps:=#[116,119,105,99,101] })) (.cons (.lit (.str { cps:=#[109,105,115,115,105,110,103] })) .nil)))) (.mth .index .v1 (.cons (.lit (.bool true)) .nil))))
noncomputable def B23:Ss:=.cons S23_0 <| .cons S23_1 <| .cons S23_2 <| .nil
noncomputable def S24_0:St:=(.try_ (.cons (.asg (.one 5) (.call 22 (.cons .v0 (.cons .v1 (.cons .v2 (.cons .v3 (.cons .v4 .nil))))))) .nil) 10 6 23)
noncomputable def S24_1:St:=(.ife (.cmp .v1 (.one .eq (.i 7))) (.cons (.asg (.one 7) (.and (.blt .isinstance (.cons .v5 (.cons (.ty 2) .nil))) (.and (.cmp (.blt .len (.cons .v5 .nil)) (.one .eq (.i 3))) (.cmp .v5 (.one .eq (.tup (.cons .v2 (.cons .v3 (.cons .v4 .nil))))))))) (.cons (.ret (.bin .mul (.lit (.str { cps:=#[100,111,110,101] })) (.blt .int (.cons (.and .v7 (.and (.call 20 (.cons (.idx .v5 (.i 0)) .nil)) (.and (.call 20 (.cons (.idx .v5 (.i 1)) .nil)) (.call 20 (.cons (.idx .v5 (.i 2)) .nil))))) .nil)))) .nil)) .nil)
noncomputable def S24_2:St:=(.ife (.cmp .v1 (.one .gt (.i 8))) (.cons (.ret (.bin .mul (.lit (.str { cps:=#[100,111,110,101] })) (.blt .int (.cons (.cmp .v5 (.one .is (.lit .none))) .nil)))) .nil) .nil)
noncomputable def S24_3:St:=(.ret (.lit (.str { cps:=#[100,111,110,101] })))
noncomputable def B24:Ss:=.cons S24_0 <| .cons S24_1 <| .cons S24_2 <| .cons S24_3 <| .nil
noncomputable def S60_0:St:=(.asg (.one 1) (.lst (.cons (.tup (.cons (.i 0) (.cons (.i 0) (.cons (.i 0) .nil)))) (.cons (.tup (.cons (.i 2) (.cons (.i 5) (.cons (.i 1) .nil)))) .nil))))
noncomputable def S60_1:St:=(.asg (.one 2) (.new 0 .nil))
noncomputable def S60_2:St:=(.for_ (.one 3) (.ex .v1) (.cons (.expr (.ucall 1 .v2 (.cons (.idx .v3 (.i 0)) (.cons (.idx .v3 (.i 1)) (.cons (.idx .v3 (.i 2)) .nil))))) .nil))
noncomputable def S60_3:St:=(.asg (.one 4) (.call 19 (.cons (.call 16 (.cons .v0 (.cons (.i 0) .nil))) .nil)))
noncomputable def S60_4:St:=(.asg (.one 5) (.call 19 (.cons (.call 16 (.cons .v0 (.cons (.i 1) .nil))) .nil)))
noncomputable def S60_5:St:=(.asg (.one 6) (.call 19 (.cons (.call 16 (.cons .v0 (.cons (.i 2) .nil))) .nil)))
noncomputable def S60_6:St:=(.ife (.cmp (.bin .mod (.bin .fdiv (.call 16 (.cons .v0 (.cons (.i 3) .nil))) (.i 11)) (.i 4)) (.one .eq (.i 0))) (.cons (.asg (.three 4 5 6) (.idx .v1 (.bin .mod (.call 16 (.cons .v0 (.cons (.i 4) .nil))) (.i 2)))) .nil) .nil)
noncomputable def S60_7:St:=(.ife (.and (.cmp (.bin .mod (.bin .fdiv (.call 16 (.cons .v0 (.cons (.i 3) .nil))) (.i 11)) (.i 4)) (.one .eq (.i 1))) (.call 20 (.cons .v4 .nil))) (.cons (.asg (.one 5) .v4) .nil) .nil)
noncomputable def S60_8:St:=(.asg (.one 7) (.bin .mod (.call 16 (.cons .v0 (.cons (.i 3) .nil))) (.i 11)))
noncomputable def S60_9:St:=(.ife (.cmp (.bin .mod (.bin .fdiv (.call 16 (.cons .v0 (.cons (.i 3) .nil))) (.i 11)) (.i 4)) (.one .eq (.i 2))) (.cons (.asg (.three 4 5 6) (.bin .add (.slc (.idx .v1 (.bin .mod (.call 16 (.cons .v0 (.cons (.i 4) .nil))) (.i 2))) .no (.yes (.i 2)) .no) (.tup (.cons (.call 19 (.cons (.bin .mul (.i 5) (.call 16 (.cons .v0 (.cons (.i 2) .nil)))) .nil)) .nil)))) (.cons (.asg (.one 7) (.bin .add (.i 7) (.bin .mod .v7 (.i 4)))) .nil)) .nil)
noncomputable def S60_10:St:=(.asg (.one 8) (.lit (.str { cps:=#[100,111,110,101] })))
noncomputable def S60_11:St:=(.ife (.not (.call 21 (.cons .v7 (.cons .v4 (.cons .v5 (.cons .v6 .nil)))))) (.cons (.asg (.one 8) (.lit (.str { cps:=#[98,97,100] }))) .nil) (.cons (.ife (.and (.cmp .v7 (.one .eq (.i 9))) (.cmp (.tup (.cons .v4 (.cons .v5 (.cons .v6 .nil)))) (.one .mem .v1))) (.cons (.asg (.one 8) (.lit (.str { cps:=#[116,119,105,99,101] }))) .nil) (.cons (.ife (.and (.cmp .v7 (.one .eq (.i 10))) (.cmp (.tup (.cons .v4 (.cons .v5 (.cons .v6 .nil)))) (.one .nmem .v1))) (.cons (.asg (.one 8) (.lit (.str { cps:=#[109,105,115,115,105,110,103] }))) .nil) .nil) .nil)) .nil))
noncomputable def S60_12:St:=(.ife (.cmp (.call 24 (.cons .v2 (.cons .v7 (.cons .v4 (.cons .v5 (.cons .v6 .nil)))))) (.one .ne .v8)) (.cons (.ret (.lit (.bool false))) .nil) .nil)
noncomputable def S60_13:St:=(.ife (.and (.cmp .v8 (.one .eq (.lit (.str { cps:=#[100,111,110,101] })))) (.cmp .v7 (.one .eq (.i 9)))) (.cons (.asg (.one 1) (.blt .sorted (.cons (.bin .add .v1 (.lst (.cons (.tup (.cons .v4 (.cons .v5 (.cons .v6 .nil)))) .nil))) .nil))) .nil) .nil)
noncomputable def S60_14:St:=(.ife (.and (.cmp .v8 (.one .eq (.lit (.str { cps:=#[100,111,110,101] })))) (.cmp .v7 (.one .eq (.i 10)))) (.cons (.asg (.one 1) (.comp (.var 10) 10 (.ex .v1) (.cons (.cmp (.var 10) (.one .ne (.tup (.cons .v4 (.cons .v5 (.cons .v6 .nil)))))) .nil))) .nil) .nil)
noncomputable def S60_15:St:=(.ret (.cmp (.ucall 4 .v2 .nil) (.one .eq .v1)))
noncomputable def B60:Ss:=.cons S60_0 <| .cons S60_1 <| .cons S60_2 <| .cons S60_3 <| .cons S60_4 <| .cons S60_5 <| .cons S60_6 <| .cons S60_7 <| .cons S60_8 <| .cons S60_9 <| .cons S60_10 <| .cons S60_11 <| .cons S60_12 <| .cons S60_13 <| .cons S60_14 <| .cons S60_15 <| .nil
inductive Th (σ:H):V→Prop
 | int (i:Int):Th σ (.int i)
 | bool (b:Bool):Th σ (.bool b)
 | none:Th σ .none
 | str (w:Str):Th σ (.str w)
 | tup (l:List V):Th σ (.tup l)
 | obj (n:Nat) (l:List V) (h:σ[n]? = some (.list l)):Th σ (.obj n)
theorem Th.app {τ:H}{v:V} (h:Th σ v):Th (σ++τ) v:=by
 cases h with
 | int i=>exact .int i
 | bool b=>exact .bool b
 | none=>exact .none
 | str w=>exact .str w
 | tup l=>exact .tup l
 | obj n l h=>exact .obj n l (get_app h)
noncomputable def inR (i:Int):Bool:=decide (-10 ^ 60 < i) && decide (i < 10 ^ 60)
noncomputable def num (v:V):Bool:=match v with
 | .int i=>inR i
 | _=>false
section
variable {pg:Pg}
theorem whole_bad (hF:pg.fn 1=some ⟨[0],9,B1,.pure⟩) (d:Nat) {v:V} (ht:Th σ v) (hn:num v=false):callF pg (d + 1) 1 [v] σ=some (.exc 11,σ):=by
 have hr:∀{e:Ex} (q:evalE ⟨pg,callF pg d⟩ e [some v,none,none,none,none,none,none,none,none] σ=some (.ok (.bool true),σ)),exec ⟨pg,callF pg d⟩ (.ife e (.cons (.raise 11) .nil) .nil) [some v,none,none,none,none,none,none,none,none] σ=some (.exc 11,[some v,none,none,none,none,none,none,none,none],σ):=fun q=>x_ift q (xs_exc x_raise)
 cases ht with
 | int i=>
  have hc:evalE ⟨pg,callF pg d⟩ (Ex.cmp (Ex.neg (Ex.bin Bop.pow (Ex.lit (V.int 10)) (Ex.lit (V.int 60)))) (Ch.more Cop.lt (Ex.var 0) (Ch.one Cop.lt (Ex.bin Bop.pow (Ex.lit (V.int 10)) (Ex.lit (V.int 60)))))) [some (.int i),none,none,none,none,none,none,none,none] σ=some (.ok (.bool false),σ):=by
   rw [← show inR i=false from hn]
   exact e_cmp2 (e_neg (e_bin e_lit e_lit (bin_pow (by decide) _))) (e_var rfl) (e_bin e_lit e_lit (bin_pow (by decide) _)) rfl rfl
  exact ev_fnX hF rfl (xs_exc (hr (e_orf (notT (e_blt (es_cons (e_var rfl) (es_cons e_ty es_nil)) rfl)) (e_orf (e_blt (es_cons (e_var rfl) (es_cons e_ty es_nil)) rfl) (notF hc)))))
 | bool b=>exact ev_fnX hF rfl (xs_exc (hr (e_orf (notT (e_blt (es_cons (e_var rfl) (es_cons e_ty es_nil)) rfl)) (e_ort (e_blt (es_cons (e_var rfl) (es_cons e_ty es_nil)) rfl)))))
 | none=>exact ev_fnX hF rfl (xs_exc (hr (e_ort (notF (e_blt (es_cons (e_var rfl) (es_cons e_ty es_nil)) rfl)))))
 | str w=>exact ev_fnX hF rfl (xs_exc (hr (e_ort (notF (e_blt (es_cons (e_var rfl) (es_cons e_ty es_nil)) rfl)))))
 | tup l=>exact ev_fnX hF rfl (xs_exc (hr (e_ort (notF (e_blt (es_cons (e_var rfl) (es_cons e_ty es_nil)) rfl)))))
 | obj n l h=>
  have hi:bltV .isinstance [.obj n,.ty 0] σ=some (.bool false,σ):=by
   show ((σ[n]?).bind fun o=>isiO o 0).map (fun r=>(V.bool r,σ))=_
   rw [h];rfl
  exact ev_fnX hF rfl (xs_exc (hr (e_ort (notF (e_blt (es_cons (e_var rfl) (es_cons e_ty es_nil)) hi)))))
theorem num_inv {v:V} (h:num v=true):∃i,v=.int i∧-10 ^ 60 < i∧i < 10 ^ 60:=by
 cases v with
 | int i=>exact ⟨i,rfl,of_decide_eq_true (and_l h),of_decide_eq_true (and_r h)⟩
 | _=>exact ft h
theorem whole_ok (hF:pg.fn 1=some ⟨[0],9,B1,.pure⟩) (d:Nat) {v:V} (hn:num v=true):callF pg (d + 1) 1 [v] σ=some (.ok .none,σ):=by
 refine byC fun hX=>?_;refine rEAA (fun i hO1 h1 h2=>?_) (num_inv hn);obtain rfl:=hO1;refine hX ?_;clear hX
 exact ev_whole hF d i h1 h2 σ
noncomputable def span (lo hi:V):Bool:=num lo && num hi && (match lo,hi with
 | .int a,.int b=>decide (a≤b)
 | _,_=>false)
theorem span_inv {lo hi:V} (h:span lo hi=true):∃a b,lo=.int a∧hi=.int b∧-10 ^ 60 < a∧a≤b∧b < 10 ^ 60:=by
 refine byC fun hX=>?_;refine rEAA (fun a hO1 h1 u3_=>?_) (num_inv (and_l (and_l h)));obtain rfl:=hO1;refine hX ?_;clear hX
 refine byC fun hX=>?_;refine rEAA (fun b hO1 u2_ h2=>?_) (num_inv (and_r (and_l h)));obtain rfl:=hO1;refine hX ?_;clear hX
 exact ⟨a,b,rfl,rfl,h1,of_decide_eq_true (and_r h),h2⟩
set_option tactic.hygienic true in
theorem span_bad (h1:pg.fn 1=some ⟨[0],9,B1,.pure⟩) (h2:pg.fn 2=some ⟨[0,1],10,B2,.pure⟩) (d:Nat) {lo hi:V} (tl:Th σ lo) (th:Th σ hi) (h:span lo hi=false):callF pg (d + 2) 2 [lo,hi] σ=some (.exc 11,σ):=by
 cases hl:num lo with
 | false=>exact ev_fnX h2 rfl (xs_exc (x_exprX (evalX_call (argsX_of (es_cons (e_var rfl) es_nil)) (whole_bad h1 d tl hl))))
 | true=>
  have c1:exec ⟨pg,callF pg (d + 1)⟩ S2_0 [some lo,some hi,none,none,none,none,none,none,none,none] σ=some (.next,[some lo,some hi,none,none,none,none,none,none,none,none],σ):=x_expr (e_call (es_cons (e_var rfl) es_nil) (whole_ok h1 d hl))
  cases hh:num hi with
  | false=>exact ev_fnX h2 rfl (xs_cons c1 (xs_exc (x_exprX (evalX_call (argsX_of (es_cons (e_var rfl) es_nil)) (whole_bad h1 d th hh)))))
  | true=>
   refine byC fun hX=>?_;refine rEAA (fun a hO1 u2_ u3_=>?_) (num_inv hl);obtain rfl:=hO1;refine hX ?_;clear hX
   refine byC fun hX=>?_;refine rEAA (fun b hO1 u2_ u3_=>?_) (num_inv hh);obtain rfl:=hO1;refine hX ?_;clear hX
   have hab:b < a:=by
    have h:(num (.int a) && num (.int b) && decide (a≤b))=false:=h
    rw [hl,hh] at h
    have:=of_decide_eq_false (show decide (a≤b)=false from h)
    lia
   exact ev_fnX h2 rfl (xs_cons c1 (xs_cons (x_expr (e_call (es_cons (e_var rfl) es_nil) (whole_ok h1 d hh))) (xs_exc (x_ift (e_cmp (e_var rfl) (e_var rfl) (gtT hab)) (xs_exc x_raise)))))
theorem stretch_bad (P:P2 pg) (d:Nat) {lo hi mk:V} (tl:Th σ lo) (th:Th σ hi) (tm:Th σ mk) (h:(span lo hi && num mk)=false):callF pg (d + 3) 3 [lo,hi,mk] σ=some (.exc 11,σ):=by
 cases hm:num mk with
 | false=>exact ev_fnX P.f3 rfl (xs_exc (x_exprX (evalX_call (argsX_of (es_cons (e_var rfl) es_nil)) (whole_bad P.f1 (d + 1) tm hm))))
 | true=>
  rw [hm,Bool.and_true] at h
  exact ev_fnX P.f3 rfl (xs_cons (x_expr (e_call (es_cons (e_var rfl) es_nil) (whole_ok P.f1 (d + 1) hm))) (xs_exc (x_exprX (evalX_call (argsX_of (es_cons (e_var rfl) (es_cons (e_var rfl) es_nil))) (span_bad P.f1 P.f2 d tl th h)))))
theorem ev_number (hF:pg.fn 20=some ⟨[0],9,B20,.pure⟩) (d:Nat) {v:V} (ht:Th σ v):callF pg (d + 1) 20 [v] σ=some (.ok (.bool (num v)),σ):=by
 cases ht with
 | int i=>
  have hc:evalE ⟨pg,callF pg d⟩ (Ex.cmp (Ex.bin Bop.sub (Ex.lit (V.int 0)) (Ex.bin Bop.pow (Ex.lit (V.int 10)) (Ex.lit (V.int 60)))) (Ch.more Cop.lt (Ex.var 0) (Ch.one Cop.lt (Ex.bin Bop.pow (Ex.lit (V.int 10)) (Ex.lit (V.int 60)))))) [some (.int i),none,none,none,none,none,none,none,none] σ=some (.ok (.bool (inR i)),σ):=by
   have e0:(0:Int) - 10 ^ 60 = -10 ^ 60:=by decide
   have:=e_cmp2 (C:=⟨pg,callF pg d⟩) (ℓ:=[some (.int i),none,none,none,none,none,none,none,none]) (σ:=σ) (op:=.lt) (op':=.lt) (e_bin (op:=.sub) (e_lit (v:=.int 0)) (e_bin e_lit e_lit (bin_pow (x:=10) (y:=60) (by decide) _)) rfl) (e_var (i:=0) (v:=.int i) rfl) (e_bin (op:=.pow) e_lit e_lit (bin_pow (x:=10) (y:=60) (by decide) _)) rfl rfl
   rw [show ((0:Int) - 10 ^ (60:Int).toNat) = -10 ^ 60 from e0] at this
   exact this
  exact ev_fn0 hF rfl (xs_ret (x_ret (e_andt (e_blt (es_cons (e_var rfl) (es_cons e_ty es_nil)) rfl) (e_andt (notF (e_blt (es_cons (e_var rfl) (es_cons e_ty es_nil)) rfl)) hc)))) rfl
 | bool b=>exact ev_fn0 hF rfl (xs_ret (x_ret (e_andt (e_blt (es_cons (e_var rfl) (es_cons e_ty es_nil)) rfl) (e_andf (notT (e_blt (es_cons (e_var rfl) (es_cons e_ty es_nil)) rfl)))))) rfl
 | none=>exact ev_fn0 hF rfl (xs_ret (x_ret (e_andf (e_blt (es_cons (e_var rfl) (es_cons e_ty es_nil)) rfl)))) rfl
 | str w=>exact ev_fn0 hF rfl (xs_ret (x_ret (e_andf (e_blt (es_cons (e_var rfl) (es_cons e_ty es_nil)) rfl)))) rfl
 | tup l=>exact ev_fn0 hF rfl (xs_ret (x_ret (e_andf (e_blt (es_cons (e_var rfl) (es_cons e_ty es_nil)) rfl)))) rfl
 | obj n l h=>
  have hi:bltV .isinstance [.obj n,.ty 0] σ=some (.bool false,σ):=by
   show ((σ[n]?).bind fun o=>isiO o 0).map (fun r=>(V.bool r,σ))=_
   rw [h];rfl
  exact ev_fn0 hF rfl (xs_ret (x_ret (e_andf (e_blt (es_cons (e_var rfl) (es_cons e_ty es_nil)) hi)))) rfl
end
end Mini.Internal
set_option exponentiation.threshold 2000
namespace Mini.Internal
open PySem
variable {ρ ρ' ρ1:List Addr}{σ σ' σ1:H}{s s' s1:Shared}{h h':Heap}{ℓ ℓ':L}
noncomputable def good (c:Int) (lo hi mk:V):Bool:=if c=0 then num lo else if span lo hi=true then decide (c < 7) || num mk else false
section
variable {pg:Pg}
theorem ev_good (h20:pg.fn 20=some ⟨[0],9,B20,.pure⟩) (hF:pg.fn 21=some ⟨[0,1,2,3],12,B21,.pure⟩) (d:Nat) (c:Int) {lo hi mk:V} (tl:Th σ lo) (th:Th σ hi) (tm:Th σ mk):callF pg (d + 2) 21 [.int c,lo,hi,mk] σ=some (.ok (.bool (good c lo hi mk)),σ):=by
 have nl:evalE ⟨pg,callF pg (d + 1)⟩ (Ex.call 20 (Es.cons (Ex.var 1) Es.nil)) [some (.int c),some lo,some hi,some mk,none,none,none,none,none,none,none,none] σ=some (.ok (.bool (num lo)),σ):=e_call (es_cons (e_var rfl) es_nil) (ev_number h20 d tl)
 have nh:evalE ⟨pg,callF pg (d + 1)⟩ (Ex.call 20 (Es.cons (Ex.var 2) Es.nil)) [some (.int c),some lo,some hi,some mk,none,none,none,none,none,none,none,none] σ=some (.ok (.bool (num hi)),σ):=e_call (es_cons (e_var rfl) es_nil) (ev_number h20 d th)
 have nm:evalE ⟨pg,callF pg (d + 1)⟩ (Ex.call 20 (Es.cons (Ex.var 3) Es.nil)) [some (.int c),some lo,some hi,some mk,none,none,none,none,none,none,none,none] σ=some (.ok (.bool (num mk)),σ):=e_call (es_cons (e_var rfl) es_nil) (ev_number h20 d tm)
 have c0:evalE ⟨pg,callF pg (d + 1)⟩ (Ex.cmp (Ex.var 0) (Ch.one Cop.eq (Ex.lit (V.int 0)))) [some (.int c),some lo,some hi,some mk,none,none,none,none,none,none,none,none] σ=some (.ok (.bool (decide (c=0))),σ):=e_cmp (e_var rfl) e_lit rfl
 unfold good
 by_cases hc:c=0
 ·rw [if_pos hc]
  rw [decide_eq_true hc] at c0
  exact ev_fn0 hF rfl (xs_ret (x_ift c0 (xs_ret (x_ret nl)))) rfl
 ·rw [if_neg hc]
  rw [decide_eq_false hc] at c0
  have t:∀{p:Bool},evalE ⟨pg,callF pg (d + 1)⟩ (Ex.or (Ex.not (Ex.call 20 (Es.cons (Ex.var 1) Es.nil))) (Ex.or (Ex.not (Ex.call 20 (Es.cons (Ex.var 2) Es.nil))) (Ex.cmp (Ex.var 1) (Ch.one Cop.gt (Ex.var 2))))) [some (.int c),some lo,some hi,some mk,none,none,none,none,none,none,none,none] σ=some (.ok (.bool p),σ)→p = !(span lo hi)→callF pg (d + 2) 21 [.int c,lo,hi,mk] σ=some (.ok (.bool (if span lo hi=true then decide (c < 7) || num mk else false)),σ):=fun {p} ht hp=>by
   cases hs:span lo hi with
   | false=>
    rw [hs] at hp
    rw [hp] at ht
    exact ev_fn0 hF rfl (xs_cons (x_iff c0 xs_nil) (xs_ret (x_ift ht (xs_ret (x_ret e_lit))))) rfl
   | true=>
    rw [hs] at hp
    rw [hp] at ht
    rw [if_pos rfl]
    exact ev_fn0 hF rfl (xs_cons (x_iff c0 xs_nil) (xs_cons (x_iff ht xs_nil) (xs_ret (x_ret (e_or (e_cmp (e_var rfl) e_lit rfl) nm))))) rfl
  cases hl:num lo with
  | false=>
   rw [hl] at nl
   exact t (e_ort (notF nl)) (by unfold span;rw [hl];rfl)
  | true=>
   cases hh:num hi with
   | false=>
    rw [hl] at nl
    rw [hh] at nh
    exact t (e_orf (notT nl) (e_ort (notF nh))) (by unfold span;rw [hl,hh];rfl)
   | true=>
    rw [hl] at nl
    rw [hh] at nh
    refine byC fun hX=>?_;refine rEAA (fun a hO1 u2_ u3_=>?_) (num_inv hl);obtain rfl:=hO1;refine hX ?_;clear hX
    refine byC fun hX=>?_;refine rEAA (fun b hO1 u2_ u3_=>?_) (num_inv hh);obtain rfl:=hO1;refine hX ?_;clear hX
    refine t (p:=decide (b < a)) (e_orf (notT nl) (e_orf (notT nh) (e_cmp (e_var rfl) (e_var rfl) rfl))) ?_
    show decide (b < a) = !(num (.int a) && num (.int b) && decide (a≤b))
    rw [hl,hh,Bool.true_and,Bool.true_and]
    by_cases q:a≤b
    ·rw [decide_eq_true q,decide_eq_false (by lia)];rfl
    ·rw [decide_eq_false q,decide_eq_true (by lia)];rfl
noncomputable def wordX (j:Nat):Str:=if j=11 then { cps:=#[98,97,100] } else if j=12 then { cps:=#[116,119,105,99,101] } else { cps:=#[109,105,115,115,105,110,103] }
theorem it_exL {C:Cl}{e:Ex}{n:Nat}{l:List V} (he:evalE C e ℓ σ=some (.ok (.obj n),σ1)) (hn:σ1[n]? = some (.list l)):evalIt C (.exL e) ℓ σ=some (.ok ⟨l,fun σ'=>σ'[n]? = some (.list l)⟩,σ1):=by
 refine (bok_eq he).trans ?_
 show (listOf σ1 (.obj n)).bind _=_
 rw [lst_at hn];rfl
theorem cb_t' {C : Cl} {elt : Ex} {ifs : Es} {v : V} (h : evalIfs C ifs ℓ σ = some (.ok true, σ)) (he : evalE C elt ℓ σ = some (.ok v, σ)) :
  bok (evalIfs C ifs ℓ σ) (fun b σ2=>if b then bok (evalE C elt ℓ σ2) fun v σ3=>some (.ok (some v),σ3) else some (.ok .none,σ2))=some (.ok (some v),σ):=(bok_eq h).trans (bok_eq he)
set_option tactic.hygienic true in
theorem ev_named (hF:pg.fn 23=some ⟨[0],10,B23,.pure⟩) (d j:Nat) (hj:j=11∨j=12∨j=13) (σ:H):callF pg (d + 1) 23 [.ty (100 + j)] σ=some (.ok (.str (wordX j)),σ):=by
 obtain ⟨b1,b2,b3,k,hlen,hk,hkl,hw,hi1,hi2,hi3,hi4⟩ : ∃(b1 b2 b3:Bool) (k:Nat),([b1,b2,b3].filterMap fun b=>if b then some (V.bool b) else none).length=1∧[b1,b2,b3].idxOf true=k∧k < 3∧[V.str { cps:=#[98,97,100] },V.str { cps:=#[116,119,105,99,101] },V.str { cps:=#[109,105,115,115,105,110,103] }][k]? = some (V.str (wordX j))∧isiE j 11=some (b1)∧isiE j 12=some (b2)∧isiE j 13=some (b3)∧isiE j 4=some true:=by
  rcases hj with rfl | rfl | rfl
  ·exact ⟨true,false,false,0,rfl,rfl,by decide,rfl,rfl,rfl,rfl,rfl⟩
  ·exact ⟨false,true,false,1,rfl,rfl,by decide,rfl,rfl,rfl,rfl,rfl⟩
  ·exact ⟨false,false,true,2,rfl,rfl,by decide,rfl,rfl,rfl,rfl,rfl⟩
 have is:∀(t:Nat) (b:Bool) (ℓ:L) (τ:H),ℓ[0]?.join=some (.ty (100 + j))→t < 100→isiE j t=some b→evalE ⟨pg,callF pg d⟩ (Ex.blt Blt.isinstance (Es.cons (Ex.var 0) (Es.cons (Ex.ty t) Es.nil))) ℓ τ=some (.ok (.bool b),τ):=fun t b ℓ τ h0 ht hi=>by
  refine e_blt (es_cons (e_var h0) (es_cons (e_ty ht) es_nil)) ?_
  show (if 100≤100 + j then isiE (100 + j - 100) t else Option.none).map (fun r=>(V.bool r,τ))=_
  rw [if_pos (by lia),Nat.add_sub_cancel_left,hi];rfl
 have s0:exec ⟨pg,callF pg d⟩ S23_0 [some (.ty (100 + j)),none,none,none,none,none,none,none,none,none] σ=some (.next,[some (.ty (100 + j)),some (.obj σ.length),none,none,none,none,none,none,none,none],σ++[.list [.bool b1,.bool b2,.bool b3]]) :=
  x_asg (e_lst (es_cons (is 11 b1 _ σ rfl (by decide) hi1) (es_cons (is 12 b2 _ σ rfl (by decide) hi2) (es_cons (is 13 b3 _ σ rfl (by decide) hi3) es_nil))) rfl) rfl
 have hget:(σ++[O.list [.bool b1,.bool b2,.bool b3]])[σ.length]? = some (.list ([b1,b2,b3].map V.bool)):=by simp
 have hcomp:=comp_map (C:=⟨pg,callF pg d⟩) (elt:=Ex.var 3) (tg:=3) (it:=It.exL (Ex.var 1)) (ifs:=Es.cons (Ex.var 3) Es.nil) (ℓ:=[some (.ty (100 + j)),some (.obj σ.length),none,none,none,none,none,none,none,none]) (σ:=σ++[O.list [.bool b1,.bool b2,.bool b3]]) (xs:=[b1,b2,b3]) V.bool (fun b=>if b then some (V.bool b) else none) (it_exL (e_var rfl) hget) hget (Nat.le_of_ble_eq_true rfl) (show 3≤lenMax by decide) fun x hx=>by
  cases x with
  | true=>exact cb_t' (if_one (p:=true) (e_var (v:=.bool true) rfl)) (e_var (v:=.bool true) rfl)
  | false=>exact cb_f (if_one (p:=false) (e_var (v:=.bool false) rfl))
 have s1:exec ⟨pg,callF pg d⟩ S23_1 [some (.ty (100 + j)),some (.obj σ.length),none,none,none,none,none,none,none,none] (σ++[.list [.bool b1,.bool b2,.bool b3]])=some (.next,[some (.ty (100 + j)),some (.obj σ.length),none,none,none,none,none,none,none,none],σ++[.list [.bool b1,.bool b2,.bool b3]]++[.list ([b1,b2,b3].filterMap fun b=>if b then some (V.bool b) else none)]):=by
  refine x_iff (e_orf (e_cmp (e_blt (es_cons hcomp es_nil) (v:=.int 1) (σ2:=_) ?_) e_lit rfl) (notT (is 4 true _ _ rfl (by decide) hi4))) xs_nil
  show (items _ (.obj _)).map _=_
  rw [items_last]
  show some (V.int _,_)=_
  rw [hlen];rfl
 have hx2:exec ⟨pg,callF pg d⟩ S23_2 [some (.ty (100 + j)),some (.obj σ.length),none,none,none,none,none,none,none,none] (σ++[.list [.bool b1,.bool b2,.bool b3]]++[.list ([b1,b2,b3].filterMap fun b=>if b then some (V.bool b) else none)])=some (.ret (.str (wordX j)),[some (.ty (100 + j)),some (.obj σ.length),none,none,none,none,none,none,none,none],σ++[.list [.bool b1,.bool b2,.bool b3]]++[.list ([b1,b2,b3].filterMap fun b=>if b then some (V.bool b) else none)]++[.list [V.str { cps:=#[98,97,100] },V.str { cps:=#[116,119,105,99,101] },V.str { cps:=#[109,105,115,115,105,110,103] }]]):=by
  have hg2:=get_app (t:=[O.list [V.str { cps:=#[98,97,100] },V.str { cps:=#[116,119,105,99,101] },V.str { cps:=#[109,105,115,115,105,110,103] }]]) (get_app (t:=[O.list ([b1,b2,b3].filterMap fun b=>if b then some (V.bool b) else none)]) hget)
  refine x_ret (e_idx (e_lst (es_cons e_lit (es_cons e_lit (es_cons e_lit es_nil))) rfl) (e_mth (e_var rfl) (lst_at hg2) (es_cons e_lit es_nil) (v:=.int (k:Nat)) ?_) ?_)
  ·show ((objNo (.obj σ.length)).bind fun n=>(listOf _ (.obj σ.length)).bind fun l=>_)=_
   rw [lst_at hg2]
   show (idxB [b1,b2,b3] true).map _=_
   unfold idxB
   rw [hk,if_pos (show k < [b1,b2,b3].length from hkl)];rfl
  ·refine (getIdx_at (l:=[V.str { cps:=#[98,97,100] },V.str { cps:=#[116,119,105,99,101] },V.str { cps:=#[109,105,115,115,105,110,103] }]) (by simp) hkl).trans ?_
   rw [← hw,List.getElem?_eq_getElem]
 have hrun:=xs_cons s0 (xs_cons s1 (xs_ret (t:=.nil) hx2))
 rw [List.append_assoc,List.append_assoc] at hrun
 exact ev_fn hF rfl hrun rfl
end
end Mini.Internal
set_option exponentiation.threshold 2000
namespace Mini.Internal
open PySem
variable {ρ ρ' ρ1:List Addr}{σ σ' σ1:H}{s s' s1:Shared}{h h':Heap}{ℓ ℓ':L}
section
variable {pg:Pg}
theorem ev_thing (hF:pg.fn 19=some ⟨[0],9,B19,.raw⟩) (d:Nat) (c:Int) (σ:H):∃v τ,callF pg (d + 1) 19 [.int c] σ=some (.ok v,σ++τ)∧Th (σ++τ) v:=by
 have md:∀(n:Int),0 < n→∃k:Nat,(c.fdiv 5).fmod n=(k:Nat)∧(k:Int) < n:=fun n hn=>by
  refine rE (fun k hk=>?_) (Int.eq_ofNat_of_zero_le (Int.fmod_nonneg_of_pos (c.fdiv 5) hn))
  exact ⟨k,hk,hk ▸ Int.fmod_lt_of_pos _ hn⟩
 have c0:evalE ⟨pg,callF pg d⟩ (Ex.cmp (Ex.bin Bop.mod (Ex.var 0) (Ex.lit (V.int 5))) (Ch.one Cop.eq (Ex.lit (V.int 0)))) [some (.int c),none,none,none,none,none,none,none,none] σ=some (.ok (.bool (decide (c.fmod 5=0))),σ):=e_cmp (e_bin (e_var rfl) e_lit (bin_mod (by decide) _)) e_lit rfl
 have c1:evalE ⟨pg,callF pg d⟩ (Ex.cmp (Ex.bin Bop.mod (Ex.var 0) (Ex.lit (V.int 5))) (Ch.one Cop.eq (Ex.lit (V.int 1)))) [some (.int c),none,none,none,none,none,none,none,none] σ=some (.ok (.bool (decide (c.fmod 5=1))),σ):=e_cmp (e_bin (e_var rfl) e_lit (bin_mod (by decide) _)) e_lit rfl
 by_cases h0:c.fmod 5=0
 ·rw [decide_eq_true h0] at c0
  refine rEA (fun k hk hlt=>?_) (md 8 (by decide))
  have hl:k < 8:=by lia
  let vs:List V:=[.int (10 ^ 60),.int (0 - 10 ^ 60),.bool true,.bool false,.none,.str { cps:=#[55] },.tup [.int 1],.obj σ.length]
  refine ⟨vs[k]'hl,[.list [.int 2]]++[.list vs],?_,?_⟩
  ·refine ev_raw hF rfl (rx_ret (ℓ':=[some (.int c),none,none,none,none,none,none,none,none]) (xs_ret (x_ift c0 (xs_ret (x_ret ?_)))))
   rw [← List.append_assoc]
   refine e_idx (e_lst (vs:=vs) (es_cons (e_bin e_lit e_lit (bin_pow (by decide) _)) (es_cons (e_bin e_lit (e_bin e_lit e_lit (bin_pow (by decide) _)) rfl) (es_cons e_lit (es_cons e_lit (es_cons e_lit (es_cons e_lit (es_cons (e_tup (es_cons e_lit es_nil) rfl) (es_cons (e_lst (es_cons e_lit es_nil) rfl) es_nil)))))))) rfl) (e_bin (e_bin (e_var rfl) e_lit (bin_fdiv (by decide) _)) e_lit (bin_mod (by decide) _)) ?_
   rw [hk]
   exact getIdx_at (l:=vs) (by simp) hl
  ·have hlist:(σ++([O.list [.int 2]]++[O.list vs]))[σ.length]? = some (.list [.int 2]):=by simp
   match k,hl with
   | 0,_=>exact .int _
   | 1,_=>exact .int _
   | 2,_=>exact .bool _
   | 3,_=>exact .bool _
   | 4,_=>exact .none
   | 5,_=>exact .str _
   | 6,_=>exact .tup _
   | 7,_=>exact .obj _ _ hlist
 ·rw [decide_eq_false h0] at c0
  by_cases h1:c.fmod 5=1
  ·rw [decide_eq_true h1] at c1
   refine rEA (fun k hk hlt=>?_) (md 4 (by decide))
   have hl:k < 4:=by lia
   let vs:List V:=[.int (10 ^ 60 - 1),.int (1 - 10 ^ 60),.int (10 ^ 59),.int (0 - 10 ^ 59)]
   refine ⟨vs[k]'hl,[.list vs],?_,?_⟩
   ·refine ev_raw hF rfl (rx_ret (ℓ':=[some (.int c),none,none,none,none,none,none,none,none]) (xs_cons (x_iff c0 xs_nil) (xs_ret (x_ift c1 (xs_ret (x_ret ?_))))))
    refine e_idx (e_lst (vs:=vs) (es_cons (e_bin (e_bin e_lit e_lit (bin_pow (by decide) _)) e_lit rfl) (es_cons (e_bin e_lit (e_bin e_lit e_lit (bin_pow (by decide) _)) rfl) (es_cons (e_bin e_lit e_lit (bin_pow (by decide) _)) (es_cons (e_bin e_lit (e_bin e_lit e_lit (bin_pow (by decide) _)) rfl) es_nil)))) rfl) (e_bin (e_bin (e_var rfl) e_lit (bin_fdiv (by decide) _)) e_lit (bin_mod (by decide) _)) ?_
    rw [hk]
    exact getIdx_at (l:=vs) (by simp) hl
   ·match k,hl with
    | 0,_=>exact .int _
    | 1,_=>exact .int _
    | 2,_=>exact .int _
    | 3,_=>exact .int _
  ·rw [decide_eq_false h1] at c1
   refine ⟨.int ((c.fdiv 5).fmod 19 - 9),[],?_,.int _⟩
   rw [List.append_nil]
   exact ev_raw hF rfl (rx_ret (xs_cons (x_iff c0 xs_nil) (xs_cons (x_iff c1 xs_nil) (xs_ret (x_ret (e_bin (e_bin (e_bin (e_var rfl) e_lit (bin_fdiv (by decide) _)) e_lit (bin_mod (by decide) _)) e_lit rfl))))))
theorem sk {C:Cl}{c k:Int}{s t:Ss}{r:Y} (h1:ℓ[1]?.join=some (.int c)) (h:c≠k) (hs:execs C t ℓ σ=r):execs C (.cons (.ife (Ex.cmp (Ex.var 1) (Ch.one Cop.eq (Ex.lit (V.int k)))) s .nil) t) ℓ σ=r :=
 xs_cons (x_iff (e_cmp (e_var h1) e_lit (congrArg some (decide_eq_false h))) xs_nil) hs
noncomputable def flO (r:R V):Fl:=match r with
 | .ok v=>.ret v
 | .exc k=>.exc k
theorem x_retR {C:Cl}{e:Ex}{r:R V} (h:evalX C e ℓ σ=some (r,σ1)):exec C (.ret e) ℓ σ=some (flO r,ℓ,σ1):=by
 cases r with
 | ok v=>exact bndY_eq' h
 | exc k=>exact bndY_ex h
theorem xs_R {C:Cl}{s:St}{t:Ss}{ℓ1:L}{r:R V} (h:exec C s ℓ σ=some (flO r,ℓ1,σ1)):execs C (.cons s t) ℓ σ=some (flO r,ℓ1,σ1):=by
 cases r with
 | ok v=>exact xs_ret h
 | exc k=>exact xs_exc h
theorem rx_R {C:Cl}{B:Ss}{r:R V} (h:execs C B ℓ σ=some (flO r,ℓ',σ')):retX (execs C B ℓ σ)=some (r,σ'):=by
 cases r with
 | ok v=>exact rx_ret h
 | exc k=>exact rx_exc h
theorem hitR {C:Cl}{c k:Int}{e:Ex}{t:Ss}{r:R V} (h1:ℓ[1]?.join=some (.int c)) (h:c=k) (hs:evalX C e ℓ σ=some (r,σ1)):execs C (.cons (.ife (Ex.cmp (Ex.var 1) (Ch.one Cop.eq (Ex.lit (V.int k)))) (.cons (.ret e) .nil) .nil) t) ℓ σ=some (flO r,ℓ,σ1) :=
 xs_R (x_ift (e_cmp (e_var h1) e_lit (congrArg some (decide_eq_true h))) (xs_R (x_retR hs)))
noncomputable def callEx (c:Nat):Ex:=match c with
 | 0=>(Ex.ucall 7 (Ex.var 0) (Es.cons (Ex.var 2) Es.nil))
 | 1=>(Ex.ucall 6 (Ex.var 0) (Es.cons (Ex.var 2) (Es.cons (Ex.var 3) Es.nil)))
 | 2=>(Ex.ucall 8 (Ex.var 0) (Es.cons (Ex.var 2) (Es.cons (Ex.var 3) Es.nil)))
 | 3=>(Ex.ucall 9 (Ex.var 0) (Es.cons (Ex.var 2) (Es.cons (Ex.var 3) Es.nil)))
 | 4=>(Ex.ucall 11 (Ex.var 0) (Es.cons (Ex.var 2) (Es.cons (Ex.var 3) Es.nil)))
 | 5=>(Ex.call 4 (Es.cons (Ex.lst (Es.cons (Ex.tup (Es.cons (Ex.lit (V.int 0)) (Es.cons (Ex.lit (V.int 0)) (Es.cons (Ex.lit (V.int 0)) Es.nil)))) Es.nil)) (Es.cons (Ex.var 2) (Es.cons (Ex.var 3) Es.nil))))
 | 6=>(Ex.call 6 (Es.cons (Ex.lst (Es.cons (Ex.tup (Es.cons (Ex.lit (V.int 0)) (Es.cons (Ex.lit (V.int 0)) (Es.cons (Ex.lit (V.int 0)) Es.nil)))) Es.nil)) (Es.cons (Ex.var 2) (Es.cons (Ex.var 3) Es.nil))))
 | 7=>(Ex.call 3 (Es.cons (Ex.var 2) (Es.cons (Ex.var 3) (Es.cons (Ex.var 4) Es.nil))))
 | 8=>(Ex.ucall 3 (Ex.var 0) (Es.cons (Ex.var 2) (Es.cons (Ex.var 3) (Es.cons (Ex.var 4) Es.nil))))
 | 9=>(Ex.ucall 1 (Ex.var 0) (Es.cons (Ex.var 2) (Es.cons (Ex.var 3) (Es.cons (Ex.var 4) Es.nil))))
 | _=>(Ex.ucall 2 (Ex.var 0) (Es.cons (Ex.var 2) (Es.cons (Ex.var 3) (Es.cons (Ex.var 4) Es.nil))))
@[elab_as_elim] theorem c11 {P:Nat→Prop} (h0:P 0) (h1:P 1) (h2:P 2) (h3:P 3) (h4:P 4) (h5:P 5) (h6:P 6) (h7:P 7) (h8:P 8) (h9:P 9) (h10:P 10) (c:Nat) (hc:c < 11):P c:=by
 rcases c with _ | _ | _ | _ | _ | _ | _ | _ | _ | _ | _ | c
 ·exact h0
 ·exact h1
 ·exact h2
 ·exact h3
 ·exact h4
 ·exact h5
 ·exact h6
 ·exact h7
 ·exact h8
 ·exact h9
 ·exact h10
 ·lia
theorem ev_called (hF : pg.fn 22 = some ⟨[0, 1, 2, 3, 4], 13, B22, .raw⟩) (d : Nat) {c : Nat} (hc : c < 11) {a lo hi mk : V} {r : R V} (h : evalX ⟨pg, callF pg d⟩ (callEx c) [some a, some (.int (c : Nat)), some lo, some hi, some mk, none, none, none, none, none, none, none, none] σ = some (r, σ1)) :
  callF pg (d + 1) 22 [a,.int (c:Nat),lo,hi,mk] σ=some (r,σ1):=by
 refine ev_raw hF rfl (rx_R (ℓ':=[some a,some (.int (c:Nat)),some lo,some hi,some mk,none,none,none,none,none,none,none,none]) ?_)
 revert h
 refine c11 ?_ ?_ ?_ ?_ ?_ ?_ ?_ ?_ ?_ ?_ ?_ c hc
 ·intro h
  exact hitR rfl rfl h
 ·intro h
  exact sk rfl (by decide) (hitR rfl rfl h)
 ·intro h
  exact sk rfl (by decide) (sk rfl (by decide) (hitR rfl rfl h))
 ·intro h
  exact sk rfl (by decide) (sk rfl (by decide) (sk rfl (by decide) (hitR rfl rfl h)))
 ·intro h
  exact sk rfl (by decide) (sk rfl (by decide) (sk rfl (by decide) (sk rfl (by decide) (hitR rfl rfl h))))
 ·intro h
  exact sk rfl (by decide) (sk rfl (by decide) (sk rfl (by decide) (sk rfl (by decide) (sk rfl (by decide) (hitR rfl rfl h)))))
 ·intro h
  exact sk rfl (by decide) (sk rfl (by decide) (sk rfl (by decide) (sk rfl (by decide) (sk rfl (by decide) (sk rfl (by decide) (hitR rfl rfl h))))))
 ·intro h
  exact sk rfl (by decide) (sk rfl (by decide) (sk rfl (by decide) (sk rfl (by decide) (sk rfl (by decide) (sk rfl (by decide) (sk rfl (by decide) (hitR rfl rfl h)))))))
 ·intro h
  exact sk rfl (by decide) (sk rfl (by decide) (sk rfl (by decide) (sk rfl (by decide) (sk rfl (by decide) (sk rfl (by decide) (sk rfl (by decide) (sk rfl (by decide) (hitR rfl rfl h))))))))
 ·intro h
  exact sk rfl (by decide) (sk rfl (by decide) (sk rfl (by decide) (sk rfl (by decide) (sk rfl (by decide) (sk rfl (by decide) (sk rfl (by decide) (sk rfl (by decide) (sk rfl (by decide) (hitR rfl rfl h)))))))))
 ·intro h
  exact sk rfl (by decide) (sk rfl (by decide) (sk rfl (by decide) (sk rfl (by decide) (sk rfl (by decide) (sk rfl (by decide) (sk rfl (by decide) (sk rfl (by decide) (sk rfl (by decide) (sk rfl (by decide) (xs_R (x_retR h)))))))))))
end
end Mini.Internal
set_option exponentiation.threshold 2000
namespace Mini.Internal
open PySem
variable {ρ ρ' ρ1:List Addr}{σ σ' σ1:H}{s s' s1:Shared}{h h':Heap}{ℓ ℓ':L}
structure PY (pg:Pg):Prop extends P2 pg where
 f4:pg.fn 4=some ⟨[0,1,2],14,B4,.fresh⟩
 f6:pg.fn 6=some ⟨[0,1,2],16,B6,.pure⟩
 f13:pg.fn 13=some ⟨[0,1],10,B13,.pure⟩
 f14:pg.fn 14=some ⟨[0,1,2],11,B14,.raw⟩
 f15:pg.fn 15=some ⟨[0,1,2,3],13,B15,.raw⟩
 f16:pg.fn 16=some ⟨[0,1],10,B16,.pure⟩
 f19:pg.fn 19=some ⟨[0],9,B19,.raw⟩
 f20:pg.fn 20=some ⟨[0],9,B20,.pure⟩
 f21:pg.fn 21=some ⟨[0,1,2,3],12,B21,.pure⟩
 f22:pg.fn 22=some ⟨[0,1,2,3,4],13,B22,.raw⟩
 f23:pg.fn 23=some ⟨[0],10,B23,.pure⟩
 f24:pg.fn 24=some ⟨[0,1,2,3,4],16,B24,.raw⟩
 f60:pg.fn 60=some ⟨[0],17,B60,.pure⟩
 f73:pg.fn 73=some ⟨[0,1,2,3],12,B73,.pure⟩
 f74:pg.fn 74=some ⟨[0],9,B74,.fresh⟩
 f76:pg.fn 76=some ⟨[0,1,2],12,B76,.fresh⟩
 f77:pg.fn 77=some ⟨[0,1],10,B77,.raw⟩
 f78:pg.fn 78=some ⟨[0,1,2],11,B78,.pure⟩
 f79:pg.fn 79=some ⟨[0,1,2],11,B79,.fresh⟩
 f81:pg.fn 81=some ⟨[0,1,2],11,B81,.pure⟩
 f84:pg.fn 84=some ⟨[0],9,B84,.fresh⟩
 m3:pg.mt 0 3=some 73
 m4:pg.mt 0 4=some 74
 m6:pg.mt 0 6=some 76
 m7:pg.mt 0 7=some 77
 m8:pg.mt 0 8=some 78
 m9:pg.mt 0 9=some 79
 m11:pg.mt 0 11=some 81
 m14:pg.mt 0 14=some 84
section
variable {pg:Pg}
theorem ev_excF {d n k c:Nat}{ps:List Nat}{B:Ss}{as:List V}{t:H} (hF:pg.fn n=some ⟨ps,k,B,.fresh⟩) (hs:startL ⟨ps,k,B,.fresh⟩ as=some ℓ) (h:execs ⟨pg,callF pg d⟩ B ℓ σ=some (.exc c,ℓ',σ++t)):callF pg (d + 1) n as σ=some (.exc c,σ):=by
 rw [callF_eq hF hs];show gc .fresh σ (retX (execs ⟨pg,callF pg d⟩ B ℓ σ))=_;rw [h];exact if_pos List.take_left
theorem ev_excP {d n k c:Nat}{ps:List Nat}{B:Ss}{as:List V}{t:H} (hF:pg.fn n=some ⟨ps,k,B,.pure⟩) (hs:startL ⟨ps,k,B,.pure⟩ as=some ℓ) (h:execs ⟨pg,callF pg d⟩ B ℓ σ=some (.exc c,ℓ',σ++t)):callF pg (d + 1) n as σ=some (.exc c,σ):=by
 rw [callF_eq hF hs];show gc .pure σ (retX (execs ⟨pg,callF pg d⟩ B ℓ σ))=_;rw [h];exact if_pos List.take_left
theorem ev_excF0 {d n k c:Nat}{ps:List Nat}{B:Ss}{as:List V} (hF:pg.fn n=some ⟨ps,k,B,.fresh⟩) (hs:startL ⟨ps,k,B,.fresh⟩ as=some ℓ) (h:execs ⟨pg,callF pg d⟩ B ℓ σ=some (.exc c,ℓ',σ)):callF pg (d + 1) n as σ=some (.exc c,σ):=by
 refine ev_excF (t:=[]) (ℓ':=ℓ') hF hs ?_
 rw [List.append_nil];exact h
variable {w n:Nat}{σ:H}{t:Tr}{m:Int}{lo hi mk:V}
theorem meet_bad (P:PY pg) (d:Nat) (a:V) (tl:Th σ lo) (th:Th σ hi) (h:span lo hi=false):callF pg (d + 3) 76 [a,lo,hi] σ=some (.exc 11,σ) :=
 ev_excF0 P.f76 rfl (xs_exc (x_exprX (evalX_call (argsX_of (es_cons (e_var rfl) (es_cons (e_var rfl) es_nil))) (span_bad P.f1 P.f2 d tl th h))))
theorem gaps_bad (P:PY pg) (d:Nat) (a:V) (tl:Th σ lo) (th:Th σ hi) (h:span lo hi=false):callF pg (d + 3) 4 [a,lo,hi] σ=some (.exc 11,σ) :=
 ev_excF0 P.f4 rfl (xs_exc (x_exprX (evalX_call (argsX_of (es_cons (e_var rfl) (es_cons (e_var rfl) es_nil))) (span_bad P.f1 P.f2 d tl th h))))
theorem deep_bad (P:PY pg) (d:Nat) (a:V) (tl:Th σ lo) (th:Th σ hi) (h:span lo hi=false):callF pg (d + 3) 6 [a,lo,hi] σ=some (.exc 11,σ) :=
 ev_fnX P.f6 rfl (xs_exc (x_exprX (evalX_call (argsX_of (es_cons (e_var rfl) (es_cons (e_var rfl) es_nil))) (span_bad P.f1 P.f2 d tl th h))))
theorem listed2 (P:PY pg) (d:Nat) (hw:Wd w n σ t m) (hz:t.sz≤2):callF pg (d + 5) 74 [.obj w] σ=some (.ok (.obj σ.length),σ++[.list (t.tl.map T3.v)]):=ev_listed P.f14 P.f84 P.f74 P.m14 (d + 2) hw (by exact ln2 [(.le .v0 (.k 2))] (.le .v0 (.a .v1 (.k 2))) (.d 111) rfl hz) (by exact ln1 [(.le .v0 (.k 2))] (.lt .v0 (.k 1000)) (.d 111) rfl hz)
theorem called_bad (P:PY pg) (d:Nat) {c:Nat} (hc:c < 11) (hw:Wd w n σ t m) (hz:t.sz≤2) (tl:Th σ lo) (th:Th σ hi) (tm:Th σ mk) (hg:good (c:Nat) lo hi mk=false):∃τ,callF pg (d + 10) 22 [.obj w,.int (c:Nat),lo,hi,mk] σ=some (.exc 11,σ++τ):=by
 have nil:∀{r:X V},r=some (.exc 11,σ)→r=some (.exc 11,σ++[]):=fun h=>by rw [List.append_nil];exact h
 have sp:c≠0→c < 7→span lo hi=false:=fun h0 h7=>by
  have hg:(if (c:Int)=0 then num lo else if span lo hi=true then decide ((c:Int) < 7) || num mk else false)=false:=hg
  rw [if_neg (by exact ln1 [(.no (.eq .v0 .k0))] (.no (.zeq (.n .v0) .k0)) (.s (.d 1011) (.d 1101)) rfl h0)] at hg
  cases hs:span lo hi with
  | false=>rfl
  | true=>rw [hs,if_pos rfl,decide_eq_true (by exact ln1 [(.lt .v0 (.k 7))] (.zlt (.n .v0) (.k 7)) (.d 111) rfl h7)] at hg;exact tf hg
 have sm:7≤c→(span lo hi && num mk)=false:=fun h7=>by
  have hg:(if (c:Int)=0 then num lo else if span lo hi=true then decide ((c:Int) < 7) || num mk else false)=false:=hg
  rw [if_neg (by exact ln1 [(.le (.k 7) .v0)] (.no (.zeq (.n .v0) .k0)) (.d 1101) rfl h7)] at hg
  cases hs:span lo hi with
  | false=>rfl
  | true=>rw [hs,if_pos rfl,decide_eq_false (by exact ln1 [(.le (.k 7) .v0)] (.no (.zlt (.n .v0) (.k 7))) (.d 111) rfl h7)] at hg;exact hg
 have stb:7≤c→∀d',callF pg (d' + 3) 3 [lo,hi,mk] σ=some (.exc 11,σ):=fun h7 d'=>stretch_bad P.toP2 d' tl th tm (sm h7)
 revert sp stb hg
 refine c11 ?_ ?_ ?_ ?_ ?_ ?_ ?_ ?_ ?_ ?_ ?_ c hc
 ·intro hg _ _
  have h0:span lo lo=false:=by
   have:num lo=false:=hg
   unfold span;rw [this];rfl
  exact ⟨[],nil (ev_called P.f22 (d + 9) (c:=0) (by decide) (show evalE _ _ _ _=_ from e_ucall (e_var rfl) ((hw.mt 7).trans P.m7) (es_cons (e_var rfl) es_nil) (ev_raw (d:=d + 8) P.f77 rfl (rx_exc (xs_exc (x_retX (show evalE _ _ _ _=_ from e_ucall (e_var rfl) ((hw.mt 6).trans P.m6) (es_cons (e_var rfl) (es_cons (e_var rfl) es_nil)) (meet_bad P (d + 5) _ tl tl h0))))))))⟩
 ·intro _ sp _
  exact ⟨[],nil (ev_called P.f22 (d + 9) (c:=1) (by decide) (show evalE _ _ _ _=_ from e_ucall (e_var rfl) ((hw.mt 6).trans P.m6) (es_cons (e_var rfl) (es_cons (e_var rfl) es_nil)) (meet_bad P (d + 6) _ tl th (sp (by decide) (by decide)))))⟩
 ·intro _ sp _
  exact ⟨[],nil (ev_called P.f22 (d + 9) (c:=2) (by decide) (show evalE _ _ _ _=_ from e_ucall (e_var rfl) ((hw.mt 8).trans P.m8) (es_cons (e_var rfl) (es_cons (e_var rfl) es_nil)) (ev_fnX (d:=d + 8) P.f78 rfl (xs_exc (x_exprX (evalX_call (argsX_of (es_cons (e_var rfl) (es_cons (e_var rfl) es_nil))) (span_bad P.f1 P.f2 (d + 6) tl th (sp (by decide) (by decide)))))))))⟩
 ·intro _ sp _
  refine ⟨[],nil (ev_called P.f22 (d + 9) (c:=3) (by decide) (show evalE _ _ _ _=_ from e_ucall (e_var rfl) ((hw.mt 9).trans P.m9) (es_cons (e_var rfl) (es_cons (e_var rfl) es_nil)) (ev_excF (d:=d + 8) P.f79 rfl (xs_exc (x_retX (evalX_call (argsX_of (es_cons (e_ucall (e_var rfl) ((hw.mt 4).trans P.m4) es_nil (listed2 P (d + 3) hw hz)) (es_cons (e_var rfl) (es_cons (e_var rfl) es_nil)))) (gaps_bad P (d + 5) _ tl.app th.app (sp (by decide) (by decide)))))))))⟩
 ·intro _ sp _
  refine ⟨[],nil (ev_called P.f22 (d + 9) (c:=4) (by decide) (show evalE _ _ _ _=_ from e_ucall (e_var rfl) ((hw.mt 11).trans P.m11) (es_cons (e_var rfl) (es_cons (e_var rfl) es_nil)) (ev_excP (d:=d + 8) P.f81 rfl (xs_exc (x_retX (evalX_call (argsX_of (es_cons (e_ucall (e_var rfl) ((hw.mt 4).trans P.m4) es_nil (listed2 P (d + 3) hw hz)) (es_cons (e_var rfl) (es_cons (e_var rfl) es_nil)))) (deep_bad P (d + 5) _ tl.app th.app (sp (by decide) (by decide)))))))))⟩
 ·intro _ sp _
  exact ⟨[.list [.tup [.int 0,.int 0,.int 0]]],ev_called P.f22 (d + 9) (c:=5) (by decide) (evalX_call (argsX_of (es_cons (e_lst (es_cons (e_tup (es_cons e_lit (es_cons e_lit (es_cons e_lit es_nil))) rfl) es_nil) rfl) (es_cons (e_var rfl) (es_cons (e_var rfl) es_nil)))) (gaps_bad P (d + 6) _ tl.app th.app (sp (by decide) (by decide))))⟩
 ·intro _ sp _
  exact ⟨[.list [.tup [.int 0,.int 0,.int 0]]],ev_called P.f22 (d + 9) (c:=6) (by decide) (evalX_call (argsX_of (es_cons (e_lst (es_cons (e_tup (es_cons e_lit (es_cons e_lit (es_cons e_lit es_nil))) rfl) es_nil) rfl) (es_cons (e_var rfl) (es_cons (e_var rfl) es_nil)))) (deep_bad P (d + 6) _ tl.app th.app (sp (by decide) (by decide))))⟩
 ·intro _ _ stb
  exact ⟨[],nil (ev_called P.f22 (d + 9) (c:=7) (by decide) (evalX_call (argsX_of (es_cons (e_var rfl) (es_cons (e_var rfl) (es_cons (e_var rfl) es_nil)))) (stb (by decide) (d + 6))))⟩
 ·intro _ _ stb
  exact ⟨[],nil (ev_called P.f22 (d + 9) (c:=8) (by decide) (show evalE _ _ _ _=_ from e_ucall (e_var rfl) ((hw.mt 3).trans P.m3) (es_cons (e_var rfl) (es_cons (e_var rfl) (es_cons (e_var rfl) es_nil))) (ev_fnX (d:=d + 8) P.f73 rfl (xs_exc (x_retX (evalX_exc (argsX_more (callX_of (e_attr (e_var rfl) hw.ns rfl)) (argsX_exc (e_call (es_cons (e_var rfl) (es_cons (e_var rfl) (es_cons (e_var rfl) es_nil))) (stb (by decide) (d + 5)))))))))))⟩
 ·intro _ _ stb
  exact ⟨[],nil (ev_called P.f22 (d + 9) (c:=9) (by decide) (show evalE _ _ _ _=_ from e_ucall (e_var rfl) ((hw.mt 1).trans P.m1) (es_cons (e_var rfl) (es_cons (e_var rfl) (es_cons (e_var rfl) es_nil))) (ev_raw (d:=d + 8) P.f71 rfl (rx_exc (xs_exc (x_asetX (evalX_exc (argsX_more (callX_of (e_attr (e_var rfl) hw.ns rfl)) (argsX_exc (e_call (es_cons (e_var rfl) (es_cons (e_var rfl) (es_cons (e_var rfl) es_nil))) (stb (by decide) (d + 5))))))))))))⟩
 ·intro _ _ stb
  exact ⟨[],nil (ev_called P.f22 (d + 9) (c:=10) (by decide) (show evalE _ _ _ _=_ from e_ucall (e_var rfl) ((hw.mt 2).trans P.m2) (es_cons (e_var rfl) (es_cons (e_var rfl) (es_cons (e_var rfl) es_nil))) (ev_raw (d:=d + 8) P.f72 rfl (rx_exc (xs_exc (x_asetX (evalX_exc (argsX_more (callX_of (e_attr (e_var rfl) hw.ns rfl)) (argsX_exc (e_call (es_cons (e_var rfl) (es_cons (e_var rfl) (es_cons (e_var rfl) es_nil))) (stb (by decide) (d + 5))))))))))))⟩
end
noncomputable def pr (p:Int×Int):List Int:=[p.1,p.2]
noncomputable def prs (l:List (Int×Int)):List V:=tupsV (l.map pr)
theorem prs_len (l:List (Int×Int)):(prs l).length=l.length:=by simp [prs,tupsV]
theorem prs_snoc (l:List (Int×Int)) (x y:Int):prs l++[.tup [.int x,.int y]]=prs (l++[(x,y)]):=by simp [prs,tupsV,pr]
noncomputable def gapsW (hi:Int):List T3→Int→List (Int×Int)→List (Int×Int)
 | [],at_,acc=>if at_≤hi then acc++[(at_,hi)] else acc
 | x::r,at_,acc=>if hi < x.a then (if at_≤hi then acc++[(at_,hi)] else acc) else if at_≤x.b then gapsW hi r (x.b + 1) (if at_ < x.a then acc++[(at_,x.a - 1)] else acc) else gapsW hi r at_ acc
theorem app_prs {acc:List (Int×Int)} (h:acc.length < lenMax) (σ:H) (x y:Int):mthV .append (.obj σ.length) [.tup [.int x,.int y]] (σ++[.list (prs acc)])=some (.none,σ++[.list (prs (acc++[(x,y)]))]):=by
 rw [app_last (by rw [prs_len];exact h),prs_snoc]
set_option tactic.hygienic true in
theorem ev_gaps {pg : Pg} (h1 : pg.fn 1 = some ⟨[0], 9, B1, .pure⟩) (h2 : pg.fn 2 = some ⟨[0, 1], 10, B2, .pure⟩) (hF : pg.fn 4 = some ⟨[0, 1, 2], 14, B4, .fresh⟩) (d : Nat) (lo hi : Int) (hl1 : -10 ^ 60 < lo) (hle : lo ≤ hi) (hh : hi < 10 ^ 60) (σ : H) (r : Nat) (ts : List T3) (hr : σ[r]? = some (.list (ts.map T3.v))) (hl : ts.length ≤ 1000) :
  callF pg (d + 3) 4 [.obj r,.int lo,.int hi] σ=some (.ok (.obj σ.length),σ++[.list (prs (gapsW hi ts lo []))]):=by
 have hk:∀acc,(σ++[O.list acc])[r]? = some (.list (ts.map T3.v)):=fun acc=>get_app hr
 have e1:∃ℓ σ',exec ⟨pg,callF pg (d + 2)⟩ S4_3 [some (.obj r),some (.int lo),some (.int hi),some (.obj σ.length),some (.int lo),none,none,none,none,none,none,none,none,none] (σ++[.list (prs [])])=some (.next,ℓ,σ')∧∃lo' acc o,ℓ=[some (.obj r),some (.int lo),some (.int hi),some (.obj σ.length),some (.int lo'),o,none,none,none,none,none,none,none,none]∧σ'=σ++[.list (prs acc)]∧acc.length≤1000∧(if lo'≤hi then acc++[(lo',hi)] else acc)=gapsW hi ts lo []:=by
  rw [S4_3,x_for (it_obj (n:=r) (e_var rfl) (hk (prs [])))]
  refine for_rel T3.v (fun xs ℓ σ'=>∃lo' acc o,ℓ=[some (.obj r),some (.int lo),some (.int hi),some (.obj σ.length),some (.int lo'),o,none,none,none,none,none,none,none,none]∧σ'=σ++[.list (prs acc)]∧acc.length + xs.length≤1000∧gapsW hi xs lo' acc=gapsW hi ts lo []) _ ?_ ?_ ts _ _ ⟨lo,[],none,rfl,rfl,by simpa using hl,rfl⟩
  ·intro ℓ σ' hR2
   revert hR2;refine rEEEAAA fun lo' acc o h1 h2 h3 h4=>?_
   exact ⟨lo',acc,o,h1,h2,h3,h4⟩
  ·intro x xs ℓ σ' hR4
   refine byC fun hX=>?_;revert hR4;refine rEEEAAA fun lo' acc o hO3 hO4 h3 h4=>?_;obtain rfl:=hO3;obtain rfl:=hO4;refine hX ?_;clear hX
   simp only [List.length_cons] at h3
   have hap:=app_prs (acc:=acc) (by unfold lenMax;exact ln2 [(.le (.a .v0 (.a .v1 .k1)) (.k 1000))] (.lt .v0 (.k 1000000)) (.d 111) rfl h3) σ
   have h4:(if hi < x.a then (if lo'≤hi then acc++[(lo',hi)] else acc) else if lo'≤x.b then gapsW hi xs (x.b + 1) (if lo' < x.a then acc++[(lo',x.a - 1)] else acc) else gapsW hi xs lo' acc)=_:=h4
   have hb:∀σ',evalE ⟨pg,callF pg (d + 2)⟩ (Ex.bin Bop.add (Ex.idx (Ex.var 5) (Ex.lit (V.int 1))) (Ex.lit (V.int 1))) [some (.obj r),some (.int lo),some (.int hi),some (.obj σ.length),some (.int lo'),some x.v,none,none,none,none,none,none,none,none] σ'=some (.ok (.int (x.b + 1)),σ'):=fun σ'=>e_bin (e_idx (e_var rfl) e_lit (getIdx_v1 _ _)) e_lit (bin_add _ _ _)
   refine ⟨by simp,?_⟩
   by_cases c1:hi < x.a
   ·rw [if_pos c1] at h4
    exact .inr ⟨_,_,xs_brk (x_ift (e_cmp (e_idx (e_var rfl) e_lit (getIdx_v0 _ _)) (e_var rfl) (gtT c1)) (xs_brk x_brk)),_,_,_,rfl,rfl,by exact ln2 [(.le (.a .v0 (.a .v1 .k1)) (.k 1000))] (.le .v0 (.k 1000)) (.d 111) rfl h3,h4⟩
   ·rw [if_neg c1] at h4
    refine .inl ?_
    by_cases c2:lo'≤x.b
    ·rw [if_pos c2] at h4
     by_cases c3:lo' < x.a
     ·rw [if_pos c3] at h4
      exact ⟨_,_,xs_cons (x_iff (e_cmp (e_idx (e_var rfl) e_lit (getIdx_v0 _ _)) (e_var rfl) (gtF c1)) xs_nil) (xs_one (x_ift (e_cmp (e_idx (e_var rfl) e_lit (getIdx_v1 _ _)) (e_var rfl) (geT c2)) (xs_cons (x_ift (e_cmp (e_idx (e_var rfl) e_lit (getIdx_v0 _ _)) (e_var rfl) (gtT c3)) (xs_one (x_expr (e_mth (e_var rfl) (listOf_last _ _) (es_cons (e_tup (es_cons (e_var rfl) (es_cons (e_bin (e_idx (e_var rfl) e_lit (getIdx_v0 _ _)) e_lit (bin_sub _ _ _)) es_nil)) rfl) es_nil) (hap _ _))))) (xs_one (x_asg (hb _) rfl))))),hk _,_,_,_,rfl,rfl,by simp;exact ln2 [(.le (.a .v0 (.a .v1 .k1)) (.k 1000))] (.le (.a (.a .v0 .k1) .v1) (.k 1000)) (.d 111) rfl h3,h4⟩
     ·rw [if_neg c3] at h4
      exact ⟨_,_,xs_cons (x_iff (e_cmp (e_idx (e_var rfl) e_lit (getIdx_v0 _ _)) (e_var rfl) (gtF c1)) xs_nil) (xs_one (x_ift (e_cmp (e_idx (e_var rfl) e_lit (getIdx_v1 _ _)) (e_var rfl) (geT c2)) (xs_cons (x_iff (e_cmp (e_idx (e_var rfl) e_lit (getIdx_v0 _ _)) (e_var rfl) (gtF c3)) xs_nil) (xs_one (x_asg (hb _) rfl))))),hk _,_,_,_,rfl,rfl,by exact ln2 [(.le (.a .v0 (.a .v1 .k1)) (.k 1000))] (.le (.a .v0 .v1) (.k 1000)) (.d 111) rfl h3,h4⟩
    ·rw [if_neg c2] at h4
     exact ⟨_,_,xs_cons (x_iff (e_cmp (e_idx (e_var rfl) e_lit (getIdx_v0 _ _)) (e_var rfl) (gtF c1)) xs_nil) (xs_one (x_iff (e_cmp (e_idx (e_var rfl) e_lit (getIdx_v1 _ _)) (e_var rfl) (geF c2)) xs_nil)),hk _,_,_,_,rfl,rfl,by exact ln2 [(.le (.a .v0 (.a .v1 .k1)) (.k 1000))] (.le (.a .v0 .v1) (.k 1000)) (.d 111) rfl h3,h4⟩
 refine byC fun hX=>?_;obtain ⟨_,_,e1,lo',acc,o,rfl,rfl,h3,h4⟩:=e1;refine hX ?_;clear hX
 have hap:=app_prs (acc:=acc) (by unfold lenMax;exact ln1 [(.le .v0 (.k 1000))] (.lt .v0 (.k 1000000)) (.d 111) rfl h3) σ
 have hend:execs ⟨pg,callF pg (d + 2)⟩ (.cons S4_4 (.cons S4_5 .nil)) [some (.obj r),some (.int lo),some (.int hi),some (.obj σ.length),some (.int lo'),o,none,none,none,none,none,none,none,none] (σ++[.list (prs acc)])=some (.ret (.obj σ.length),[some (.obj r),some (.int lo),some (.int hi),some (.obj σ.length),some (.int lo'),o,none,none,none,none,none,none,none,none],σ++[.list (prs (gapsW hi ts lo []))]):=by
  rw [← h4]
  by_cases c:lo'≤hi
  ·rw [if_pos c];exact xs_cons (x_ift (e_cmp (e_var rfl) (e_var rfl) (leT c)) (xs_one (x_expr (e_mth (e_var rfl) (listOf_last _ _) (es_cons (e_tup (es_cons (e_var rfl) (es_cons (e_var rfl) es_nil)) rfl) es_nil) (hap _ _))))) (xs_ret (x_ret (e_var rfl)))
  ·rw [if_neg c];exact xs_cons (x_iff (e_cmp (e_var rfl) (e_var rfl) (leF c)) xs_nil) (xs_ret (x_ret (e_var rfl)))
 exact ev_fnF hF rfl (xs_cons (x_expr (e_call (es_cons (e_var rfl) (es_cons (e_var rfl) es_nil)) (ev_span h1 h2 d lo hi hl1 hle hh σ))) (xs_cons (x_asg (e_lst es_nil rfl) rfl) (xs_cons (x_asg (e_var rfl) rfl) (xs_cons e1 hend)))) (Nat.le_refl _) (belows_tups _ _) (by simp [prs])
theorem countP_prefix (q:Int→Bool):∀(S:List Int),S.Pairwise (fun x y=>q y=true→q x=true)→∀(k:Nat) (h:k < S.length),(q S[k]=true↔k < S.countP q)
 | [],_,k,h=>by simp at h
 | x::r,hp,k,h=>by
  have hp':=List.pairwise_cons.mp hp
  by_cases c:q x=true
  ·rw [List.countP_cons_of_pos c]
   cases k with
   | zero=>simp [c]
   | succ k=>
    have:=countP_prefix q r hp'.2 k (by simpa using h)
    simp only [List.getElem_cons_succ];rw [this];lia
  ·have h0:∀y∈r,¬ q y=true:=fun y hy hq=>c (hp'.1 y hy hq)
   have e:(x::r).countP q=0:=by
    rw [List.countP_cons_of_neg c,List.countP_eq_zero];exact h0
   rw [e]
   refine ⟨fun hq=>?_,fun hk=>absurd hk (Nat.not_lt_zero _)⟩
   cases k with
   | zero=>exact absurd hq c
   | succ k=>exact absurd hq (h0 _ (by simp))
noncomputable def SrtI (S:List Int):Prop:=S.Pairwise (fun x y=>x≤y)
theorem nth_eq {S:List Int}{k:Nat} (h:k < S.length):nth S k=S[k]:=by simp [nth,List.getD_eq_getElem?_getD,List.getElem?_eq_getElem h]
theorem lt_iff {S:List Int} (hS:SrtI S) {k:Nat} (h:k < S.length) (v:Int):nth S k < v↔k < S.countP (fun x=>decide (x < v)):=by
 rw [nth_eq h,← countP_prefix (fun x=>decide (x < v)) S (hS.imp fun hxy hy=>by simp at hy ⊢;exact lz3 [(.zle .v0 .v2),(.zlt .v2 .v1)] (.zlt .v0 .v1) (.d 1111) rfl hxy hy) k h];simp
theorem nth_mono {S:List Int} (hS:SrtI S) {i j:Nat} (hij:i≤j) (hj:j < S.length):nth S i≤nth S j:=by
 rcases Nat.eq_or_lt_of_le hij with rfl | h
 ·exact Int.le_refl _
 ·rw [nth_eq (by exact ln3 [(.le .v0 .v2),(.lt .v2 .v1)] (.lt .v0 .v1) (.d 1111) rfl hij hj),nth_eq hj];exact List.pairwise_iff_getElem.mp hS i j (by exact ln3 [(.le .v0 .v2),(.lt .v2 .v1)] (.lt .v0 .v1) (.d 1111) rfl hij hj) hj h
noncomputable def gn (E:List Int) (v:Int):Nat:=E.countP (fun x=>decide (x < v))
noncomputable def up (S:List Int) (v:Int):Nat:=S.countP (fun x=>decide (x≤v))
theorem gn_mono (E:List Int) {u v:Int} (h:u≤v):gn E u≤gn E v:=List.countP_mono_left fun x u_ hx=>by simp at hx ⊢;exact lz3 [(.zle .v2 .v1),(.zlt .v0 .v2)] (.zlt .v0 .v1) (.d 1111) rfl h hx
noncomputable def bstep (S E:List Int) (b:Int×Int) (i:Nat):Int×Int:=if b.1 < (i:Int) + 1 - gn E (nth S i) then ((i:Int) + 1 - gn E (nth S i),nth S i) else b
structure Best (S E:List Int) (lo:Int) (i:Nat) (b:Int×Int):Prop where
 all:∀j < i,(j:Int) + 1 - gn E (nth S j)≤b.1
 one:(b=(0,lo))∨(0 < b.1∧∃j < i,(j:Int) + 1 - gn E (nth S j)=b.1∧nth S j=b.2∧∀j' < j,(j':Int) + 1 - gn E (nth S j') < b.1)
theorem Best.zero (S E:List Int) (lo:Int):Best S E lo 0 (0,lo):=⟨fun j h=>absurd h (Nat.not_lt_zero _),.inl rfl⟩
set_option tactic.hygienic true in
theorem Best.step {S E:List Int}{lo:Int}{i:Nat}{b:Int×Int} (h:Best S E lo i b):Best S E lo (i + 1) (bstep S E b i):=by
 unfold bstep
 split
 ·rename_i hlt
  refine ⟨fun j hj=>?_,.inr ⟨?_,i,by exact ln1 [] (.lt .v0 (.a .v0 .k1)) (.d 11) rfl,rfl,rfl,fun j hj=>?_⟩⟩
  ·rcases Nat.lt_succ_iff_lt_or_eq.mp hj with hj | rfl
   ·have:=h.all j hj;simp only;lia
   ·exact Int.le_refl _
  ·rcases h.one with rfl | ⟨h0,_⟩
   ·exact hlt
   ·simp only;exact lin [(.zlt .v0 (.s (.a (.n .v0) .k1) (.n .v1))),(.zlt .k0 .v0)] (.zlt .k0 (.s (.a (.n .v0) .k1) (.n .v1))) (.d 1111) rfl [_,_] [_] hlt h0
  ·have:=h.all j hj;simp only;lia
 ·rename_i hlt
  refine ⟨fun j hj=>?_,?_⟩
  ·rcases Nat.lt_succ_iff_lt_or_eq.mp hj with hj | rfl
   ·exact h.all j hj
   ·exact lin [(.no (.zlt .v0 (.s (.a (.n .v0) .k1) (.n .v1))))] (.zle (.s (.a (.n .v0) .k1) (.n .v1)) .v0) (.d 111) rfl [_,_] [_] hlt
  ·rcases h.one with e | ⟨h0,j,hj,e⟩
   ·exact .inl e
   ·exact .inr ⟨h0,j,by exact ln2 [(.lt .v0 .v1)] (.lt .v0 (.a .v1 .k1)) (.d 111) rfl hj,e⟩
noncomputable def sel (ts:List T3) (lo hi:Int):List T3:=ts.filter fun x=>decide (x.a≤hi) && decide (lo≤x.b)
noncomputable def startsOf (ts:List T3) (lo hi:Int):List Int:=((sel ts lo hi).map fun x=>if lo < x.a then x.a else lo).mergeSort fun a b=>decide (a≤b)
noncomputable def endsOf (ts:List T3) (lo hi:Int):List Int:=((sel ts lo hi).map fun x=>x.b).mergeSort fun a b=>decide (a≤b)
theorem srt_merge (l:List Int):SrtI (l.mergeSort fun a b=>decide (a≤b)):=by
 have:=List.pairwise_mergeSort (le:=fun a b:Int=>decide (a≤b)) (fun a b c h1 h2=>by simp at *;exact lz3 [(.zle .v0 .v2),(.zle .v2 .v1)] (.zle .v0 .v1) (.d 1111) rfl h1 h2) (fun a b=>by simp;exact lz2 [] (.or (.zle .v0 .v1) (.zle .v1 .v0)) (.d 111) rfl) l
 exact this.imp fun h=>by simpa using h
section
variable {ts:List T3}{lo hi:Int}
theorem countP_perm_merge (l:List Int) (q:Int→Bool):(l.mergeSort fun a b=>decide (a≤b)).countP q=l.countP q:=(List.mergeSort_perm l _).countP_eq q
theorem len_eq:(endsOf ts lo hi).length=(startsOf ts lo hi).length:=by unfold endsOf startsOf;simp
theorem gn_le (ho:∀x∈ts,x.a≤x.b) (v:Int):gn (endsOf ts lo hi) v≤gn (startsOf ts lo hi) v:=by
 unfold gn endsOf startsOf
 rw [countP_perm_merge,countP_perm_merge,List.countP_map,List.countP_map]
 refine List.countP_mono_left fun x hx h=>?_
 have h1:=(List.mem_filter.mp hx).2
 have h2:=ho x ((List.mem_filter.mp hx).1)
 simp only [Bool.and_eq_true,decide_eq_true_eq,Function.comp] at h h1 ⊢
 split <;> lia
theorem gn_lt (ho:∀x∈ts,x.a≤x.b) {i:Nat} (hi':i < (startsOf ts lo hi).length):gn (endsOf ts lo hi) (nth (startsOf ts lo hi) i)≤i:=by
 refine Nat.le_trans (gn_le ho _) ?_
 exact Nat.le_of_not_lt fun hlt=>Int.lt_irrefl _ ((lt_iff (srt_merge _) hi' (nth (startsOf ts lo hi) i)).mpr hlt)
end
theorem getIdx_nth {n:Nat}{l:List Int} (h:σ[n]? = some (.list (l.map V.int))) {k:Nat} (hk:k < l.length):getIdx σ (.obj n) (.int k)=some (.int (nth l k)):=by
 rw [getIdx_at h (by simpa using hk),nth_eq hk];simp
theorem len_obj {r:Nat}{l:List V} (h:σ[r]? = some (.list l)):bltV .len [.obj r] σ=some (.int l.length,σ):=by show (items σ (.obj r)).map _=_;rw [items_get h];rfl
theorem asc2 {ts:List T3} (h:ts.length≤2):ascB ts=true:=by
 rcases ts with _ | ⟨a,_ | ⟨b,_ | ⟨c,r⟩⟩⟩
 ·rfl
 ·rfl
 ·rfl
 ·exact absurd (Nat.le_of_succ_le_succ (Nat.le_of_succ_le_succ h)) (Nat.not_succ_le_zero _)
theorem sortV_int {l:List Int} (h:l.length≤2):sortV (l.map V.int)=some ((l.mergeSort fun a b=>decide (a≤b)).map .int):=by
 show ((asInts (l.map V.int)).elim _ _)=_
 rw [asInts_map]
 exact if_pos (asc2 (by rw [List.length_map];exact h))
theorem sorted_ints {r:Nat}{l:List Int} (h:σ[r]? = some (.list (l.map V.int))) (hl:l.length≤2):bltV .sorted [.obj r] σ=some (.obj σ.length,σ++[.list ((l.mergeSort fun a b=>decide (a≤b)).map .int)]):=by
 show ((listOf σ (.obj r)).bind sortV).bind (mkList σ)=_
 rw [listOf_get h]
 show (sortV (l.map V.int)).bind (mkList σ)=_
 rw [sortV_int hl]
 exact mkList_ok (by rw [List.length_map,List.length_mergeSort];unfold lenMax;exact ln1 [(.le .v0 (.k 2))] (.le .v0 (.k 1000000)) (.d 111) rfl hl) _
set_option tactic.hygienic true in
theorem while_nat {test : L → H → X V} {body : L → H → Y} (ℓ : Nat → L) (σ : H) (e : Nat) (ht : ∀ g, g < e → test (ℓ g) σ = some (.ok (.bool true), σ)) (hf : test (ℓ e) σ = some (.ok (.bool false), σ)) (hb : ∀ g, g < e → body (ℓ g) σ = some (.next, ℓ (g + 1), σ)) :
  ∀n g,g≤e→e - g < n→whileL test body n (ℓ g) σ=some (.next,ℓ e,σ)
 | 0,g,_,h=>absurd h (Nat.not_lt_zero _)
 | n + 1,g,hg,h=>by
  rcases Nat.eq_or_lt_of_le hg with rfl | hlt
  ·exact while_end hf
  ·exact (while_go (ht g hlt) (hb g hlt)).trans (while_nat ℓ σ e ht hf hb n (g + 1) hlt (by exact ln5 [(.lt .v2 (.a .v1 .k1)),(.lt .v3 .v4),(.sb .v2 .v4 .v3),(.sb .v0 .v4 (.a .v3 .k1))] (.lt .v0 .v1) (.s (.s (.d 111000101) (.d 111100101)) (.s (.d 10011) (.d 10011))) rfl h hlt (sub_ax _ _) (sub_ax _ _)))
set_option tactic.hygienic true in
theorem ev_deepest {pg : Pg} (h1 : pg.fn 1 = some ⟨[0], 9, B1, .pure⟩) (h2 : pg.fn 2 = some ⟨[0, 1], 10, B2, .pure⟩) (hF : pg.fn 6 = some ⟨[0, 1, 2], 16, B6, .pure⟩) (d : Nat) (lo hi : Int) (hl1 : -10 ^ 60 < lo) (hle : lo ≤ hi) (hh : hi < 10 ^ 60) (σ : H) (r : Nat) (ts : List T3) (ho : ∀ x ∈ ts, x.a ≤ x.b) (hr : σ[r]? = some (.list (ts.map T3.v))) (hl2 : ts.length ≤ 2) :
  ∃b:Int×Int,Best (startsOf ts lo hi) (endsOf ts lo hi) lo (startsOf ts lo hi).length b∧callF pg (d + 3) 6 [.obj r,.int lo,.int hi] σ=some (.ok (.tup [.int b.1,.int b.2]),σ):=by
 have hl:ts.length≤1000:=by exact ln1 [(.le .v0 (.k 2))] (.le .v0 (.k 1000)) (.d 111) rfl hl2
 have hsl:(sel ts lo hi).length≤1000:=Nat.le_trans (List.length_filter_le _ _) hl
 have hsl2:(sel ts lo hi).length≤2:=Nat.le_trans (List.length_filter_le _ _) hl2
 have hif:∀(o3 o4:Option V) (x:T3) (σ':H),evalIfs ⟨pg,callF pg (d + 2)⟩ (Es.cons (Ex.and (Ex.cmp (Ex.idx (Ex.var 9) (Ex.lit (V.int 0))) (Ch.one Cop.le (Ex.var 2))) (Ex.cmp (Ex.idx (Ex.var 9) (Ex.lit (V.int 1))) (Ch.one Cop.ge (Ex.var 1)))) Es.nil) [some (.obj r),some (.int lo),some (.int hi),o3,o4,none,none,none,none,some x.v,none,none,none,none,none,none] σ'=some (.ok (decide (x.a≤hi) && decide (lo≤x.b)),σ'):=fun o3 o4 x σ'=>
  if_one (e_and (e_cmp (e_idx (e_var rfl) e_lit (getIdx_v0 _ _)) (e_var rfl) (cmp_le _ _ _)) (e_cmp (e_idx (e_var rfl) e_lit (getIdx_v1 _ _)) (e_var rfl) (cmp_ge _ _ _)))
 have ec1 := comp_map (C := ⟨pg, callF pg (d + 2)⟩) (elt := Ex.blt Blt.max (Es.cons (Ex.var 1) (Es.cons (Ex.idx (Ex.var 9) (Ex.lit (V.int 0))) Es.nil))) (tg := 9) (it := It.ex (Ex.var 0)) (ifs := Es.cons (Ex.and (Ex.cmp (Ex.idx (Ex.var 9) (Ex.lit (V.int 0))) (Ch.one Cop.le (Ex.var 2))) (Ex.cmp (Ex.idx (Ex.var 9) (Ex.lit (V.int 1))) (Ch.one Cop.ge (Ex.var 1)))) Es.nil)
   (ℓ:=[some (.obj r),some (.int lo),some (.int hi),none,none,none,none,none,none,none,none,none,none,none,none,none]) (σ:=σ) (σ1:=σ) T3.v (fun x=>if (decide (x.a≤hi) && decide (lo≤x.b)) then some (V.int (if lo < x.a then x.a else lo)) else none) (it_obj (n:=r) (e_var rfl) hr) hr (by simp) (by unfold lenMax;exact ln1 [(.le .v0 (.k 1000))] (.le .v0 (.k 1000000)) (.d 111) rfl hl) fun x u_=>
    cb_p (hif none none x σ) (e_blt (es_cons (e_var rfl) (es_cons (e_idx (e_var rfl) e_lit (getIdx_v0 _ _)) es_nil)) rfl)
 rw [filterMap_if,show (ts.filter fun x=>decide (x.a≤hi) && decide (lo≤x.b)).map (fun x=>V.int (if lo < x.a then x.a else lo))=((sel ts lo hi).map fun x=>if lo < x.a then x.a else lo).map .int by simp [sel]] at ec1
 have hs1:=sorted_ints (σ:=σ++[.list (((sel ts lo hi).map fun x=>if lo < x.a then x.a else lo).map .int)]) (r:=σ.length) (l:=(sel ts lo hi).map fun x=>if lo < x.a then x.a else lo) (by simp) (by simpa using hsl2)
 have e1:=x_asg (ℓ:=[some (.obj r),some (.int lo),some (.int hi),none,none,none,none,none,none,none,none,none,none,none,none,none]) (i:=3) (e_blt (es_cons ec1 es_nil) hs1) rfl
 have hr2:(σ++[.list (((sel ts lo hi).map fun x=>if lo < x.a then x.a else lo).map .int)]++[.list ((startsOf ts lo hi).map .int)])[r]? = some (.list (ts.map T3.v)):=get_app (get_app hr)
 have hS0:(σ++[.list (((sel ts lo hi).map fun x=>if lo < x.a then x.a else lo).map .int)]++[.list ((startsOf ts lo hi).map .int)])[(σ++[O.list (((sel ts lo hi).map fun x=>if lo < x.a then x.a else lo).map .int)]).length]? = some (.list ((startsOf ts lo hi).map .int)):=by simp
 obtain ⟨n1,en1⟩ : ∃n1,n1=(σ++[O.list (((sel ts lo hi).map fun x=>if lo < x.a then x.a else lo).map .int)]).length:=⟨_,rfl⟩
 obtain ⟨σ2,eσ2⟩ : ∃σ2,σ2=σ++[.list (((sel ts lo hi).map fun x=>if lo < x.a then x.a else lo).map .int)]++[.list ((startsOf ts lo hi).map .int)]:=⟨_,rfl⟩
 have e1:exec ⟨pg,callF pg (d + 2)⟩ S6_1 [some (.obj r),some (.int lo),some (.int hi),none,none,none,none,none,none,none,none,none,none,none,none,none] σ=some (.next,[some (.obj r),some (.int lo),some (.int hi),some (.obj n1),none,none,none,none,none,none,none,none,none,none,none,none],σ2):=by rw [eσ2,en1];exact e1
 rw [← eσ2] at hr2 hS0
 rw [← en1] at hS0
 have hpre:∃t,σ2=σ++t:=⟨_,by rw [eσ2,List.append_assoc]⟩
 clear hs1 ec1 en1 eσ2
 have ec2 := comp_map (C := ⟨pg, callF pg (d + 2)⟩) (elt := Ex.idx (Ex.var 9) (Ex.lit (V.int 1))) (tg := 9) (it := It.ex (Ex.var 0)) (ifs := Es.cons (Ex.and (Ex.cmp (Ex.idx (Ex.var 9) (Ex.lit (V.int 0))) (Ch.one Cop.le (Ex.var 2))) (Ex.cmp (Ex.idx (Ex.var 9) (Ex.lit (V.int 1))) (Ch.one Cop.ge (Ex.var 1)))) Es.nil)
   (ℓ:=[some (.obj r),some (.int lo),some (.int hi),some (.obj n1),none,none,none,none,none,none,none,none,none,none,none,none]) (σ:=σ2) (σ1:=σ2) T3.v (fun x=>if (decide (x.a≤hi) && decide (lo≤x.b)) then some (V.int x.b) else none) (it_obj (n:=r) (e_var rfl) hr2) hr2 (by simp) (by unfold lenMax;exact ln1 [(.le .v0 (.k 1000))] (.le .v0 (.k 1000000)) (.d 111) rfl hl) fun x u_=>
    cb_p (hif (some (.obj n1)) none x σ2) (e_idx (e_var rfl) e_lit (getIdx_v1 _ _))
 rw [filterMap_if,show (ts.filter fun x=>decide (x.a≤hi) && decide (lo≤x.b)).map (fun x=>V.int x.b)=((sel ts lo hi).map fun x=>x.b).map .int by simp [sel]] at ec2
 have hs2:=sorted_ints (σ:=σ2++[.list (((sel ts lo hi).map fun x=>x.b).map .int)]) (r:=σ2.length) (l:=(sel ts lo hi).map fun x=>x.b) (by simp) (by simpa using hsl2)
 have e2:=x_asg (ℓ:=[some (.obj r),some (.int lo),some (.int hi),some (.obj n1),none,none,none,none,none,none,none,none,none,none,none,none]) (i:=4) (e_blt (es_cons ec2 es_nil) hs2) rfl
 have hS:(σ2++[.list (((sel ts lo hi).map fun x=>x.b).map .int)]++[.list ((endsOf ts lo hi).map .int)])[n1]? = some (.list ((startsOf ts lo hi).map .int)):=get_app (get_app hS0)
 have hE:(σ2++[.list (((sel ts lo hi).map fun x=>x.b).map .int)]++[.list ((endsOf ts lo hi).map .int)])[(σ2++[O.list (((sel ts lo hi).map fun x=>x.b).map .int)]).length]? = some (.list ((endsOf ts lo hi).map .int)):=by simp
 obtain ⟨n2,en2⟩ : ∃n2,n2=(σ2++[O.list (((sel ts lo hi).map fun x=>x.b).map .int)]).length:=⟨_,rfl⟩
 obtain ⟨σ4,eσ4⟩ : ∃σ4,σ4=σ2++[.list (((sel ts lo hi).map fun x=>x.b).map .int)]++[.list ((endsOf ts lo hi).map .int)]:=⟨_,rfl⟩
 have e2:exec ⟨pg,callF pg (d + 2)⟩ S6_2 [some (.obj r),some (.int lo),some (.int hi),some (.obj n1),none,none,none,none,none,none,none,none,none,none,none,none] σ2=some (.next,[some (.obj r),some (.int lo),some (.int hi),some (.obj n1),some (.obj n2),none,none,none,none,none,none,none,none,none,none,none],σ4):=by rw [eσ4,en2];exact e2
 rw [← eσ4] at hS hE
 rw [← en2] at hE
 have h4:∃t,σ4=σ++t:=by refine byC fun hX=>?_;revert hpre;refine rE fun t hO1=>?_;obtain rfl:=hO1;refine hX ?_;clear hX;exact ⟨_,by rw [eσ4,List.append_assoc,List.append_assoc]⟩
 clear hs2 ec2 en2 eσ4 hpre hr2 hS0
 have hsl2:(startsOf ts lo hi).length≤1000:=by unfold startsOf;simpa using hsl
 have hSE:=len_eq (ts:=ts) (lo:=lo) (hi:=hi)
 have hgl:∀i,i < (startsOf ts lo hi).length→gn (endsOf ts lo hi) (nth (startsOf ts lo hi) i)≤i:=fun i hi'=>gn_lt ho hi'
 have hEs:SrtI (endsOf ts lo hi):=srt_merge _
 have hSs:SrtI (startsOf ts lo hi):=srt_merge _
 generalize startsOf ts lo hi=S at *
 generalize endsOf ts lo hi=E at *
 have e5:∃ℓ σ',exec ⟨pg,callF pg (d + 2)⟩ S6_5 [some (.obj r),some (.int lo),some (.int hi),some (.obj n1),some (.obj n2),some (.tup [.int 0,.int lo]),some (.int 0),none,none,none,none,none,none,none,none,none] σ4=some (.next,ℓ,σ')∧∃b o1 o2,Best S E lo S.length b∧ℓ=[some (.obj r),some (.int lo),some (.int hi),some (.obj n1),some (.obj n2),some (.tup [.int b.1,.int b.2]),o1,o2,none,none,none,none,none,none,none,none]∧σ'=σ4:=by
  have hir:=it_rng (C:=⟨pg,callF pg (d + 2)⟩) (e:=Ex.blt Blt.len (Es.cons (Ex.var 3) Es.nil)) (ℓ:=[some (.obj r),some (.int lo),some (.int hi),some (.obj n1),some (.obj n2),some (.tup [.int 0,.int lo]),some (.int 0),none,none,none,none,none,none,none,none,none]) (σ:=σ4) (σ1:=σ4) (n:=S.length) (by have:=len_obj hS;rw [List.length_map] at this;exact e_blt (es_cons (e_var rfl) es_nil) this) (by unfold lenMax;exact ln1 [(.le .v0 (.k 1000))] (.le .v0 (.k 1000000)) (.d 111) rfl hsl2)
  rw [S6_5,x_for hir]
  refine for_rel (fun k:Nat=>V.int k) (fun xs ℓ σ'=>∃j b g o,xs=List.range' j (S.length - j)∧j≤S.length∧Best S E lo j b∧(∀i,j≤i→i < S.length→g≤gn E (nth S i))∧ℓ=[some (.obj r),some (.int lo),some (.int hi),some (.obj n1),some (.obj n2),some (.tup [.int b.1,.int b.2]),some (.int (g:Nat)),o,none,none,none,none,none,none,none,none]∧σ'=σ4) _ ?_ ?_ (List.range S.length) _ _ ⟨0,(0,lo),0,none,by simp [List.range_eq_range'],by exact ln1 [] (.le .k0 .v0) (.d 11) rfl,Best.zero _ _ _,fun u_ v_ w_=>Nat.zero_le _,rfl,rfl⟩
  ·intro ℓ σ' hR2
   refine byC fun hX=>?_;revert hR2;refine rEEEEAAAAA fun j b g o h1 h2 hb u7_ hO8 hq=>?_;obtain rfl:=hO8;refine hX ?_;clear hX
   have:j=S.length:=by
    have:=congrArg List.length h1
    simp at this;lia
   subst this
   exact ⟨b,_,o,hb,rfl,hq⟩
  ·intro k xs ℓ σ' hR4
   refine byC fun hX=>?_;revert hR4;refine rEEEEAAAAA fun j b g o h1 h2 hb hg hO8 hq=>?_;obtain rfl:=hO8;refine hX ?_;clear hX
   rw [hq]
   clear hq σ'
   refine ⟨by simp,.inl ?_⟩
   have hj:j < S.length:=by
    rcases Nat.lt_or_ge j S.length with h | h
    ·exact h
    ·rw [(by exact ln3 [(.le .v1 .v2),(.sb .v0 .v1 .v2)] (.eq .v0 .k0) (.s (.s (.d 110101) (.d 110001)) (.s (.d 11101) (.d 11001))) rfl h (sub_ax _ _):S.length - j=0)] at h1;simp at h1
   obtain ⟨m,hm⟩ : ∃m,S.length - j=m + 1:=⟨S.length - j - 1,by exact ln4 [(.lt .v2 .v3),(.sb .v1 .v0 .k1),(.sb .v0 .v3 .v2)] (.eq .v0 (.a .v1 .k1)) (.s (.s (.s (.d 11001) (.d 11001)) (.s (.d 111010001) (.d 1010001))) (.s (.s (.d 110001) (.d 110001)) (.s (.d 110101) (.d 110101)))) rfl hj (sub_ax _ _) (sub_ax _ _)⟩
   rw [hm,List.range'_succ] at h1
   injection h1 with h1 h1'
   subst h1
   have gS:=getIdx_nth hS hj
   have hgk:=hgl k hj
   have hw:=while_nat (test:=evalE ⟨pg,callF pg (d + 2)⟩ (Ex.cmp (Ex.idx (Ex.var 4) (Ex.var 6)) (Ch.one Cop.lt (Ex.idx (Ex.var 3) (Ex.var 7))))) (body:=execs ⟨pg,callF pg (d + 2)⟩ (Ss.cons (St.asg (Tg.one 6) (Ex.bin Bop.add (Ex.var 6) (Ex.lit (V.int 1)))) Ss.nil))
    (fun g'=>[some (.obj r),some (.int lo),some (.int hi),some (.obj n1),some (.obj n2),some (.tup [.int b.1,.int b.2]),some (.int (g':Nat)),some (.int k),none,none,none,none,none,none,none,none]) σ4 (gn E (nth S k))
    (fun g' hg'=>by
     have gE:=getIdx_nth hE (k:=g') (by exact ln5 [(.eq .v1 .v2),(.lt .v3 .v2),(.le .v4 .v3),(.lt .v0 .v4)] (.lt .v0 .v1) (.d 1101111) rfl hSE hj hgk hg')
     have:nth E g' < nth S k:=(lt_iff hEs (by exact ln5 [(.eq .v1 .v2),(.lt .v3 .v2),(.le .v4 .v3),(.lt .v0 .v4)] (.lt .v0 .v1) (.d 1101111) rfl hSE hj hgk hg') _).mpr hg'
     exact e_cmp (e_idx (e_var rfl) (e_var rfl) gE) (e_idx (e_var rfl) (e_var rfl) gS) (clT this))
    (by
     have gE:=getIdx_nth hE (k:=gn E (nth S k)) (by exact ln4 [(.eq .v1 .v2),(.lt .v3 .v2),(.le .v0 .v3)] (.lt .v0 .v1) (.d 110111) rfl hSE hj hgk)
     have:¬ nth E (gn E (nth S k)) < nth S k:=fun h=>Nat.lt_irrefl (gn E (nth S k)) ((lt_iff hEs (k:=gn E (nth S k)) (by exact ln4 [(.eq .v1 .v2),(.lt .v3 .v2),(.le .v0 .v3)] (.lt .v0 .v1) (.d 110111) rfl hSE hj hgk) _).mp h)
     exact e_cmp (e_idx (e_var rfl) (e_var rfl) gE) (e_idx (e_var rfl) (e_var rfl) gS) (clF this))
    (fun g' u_=>xs_one (x_asg (e_bin (e_var rfl) e_lit (bin_add _ _ _)) rfl)) whileMax g (hg k (Nat.le_refl _) hj) (by unfold whileMax;lia)
   refine ⟨[some (.obj r),some (.int lo),some (.int hi),some (.obj n1),some (.obj n2),some (.tup [.int (bstep S E b k).1,.int (bstep S E b k).2]),some (.int (gn E (nth S k):Nat)),some (.int k),none,none,none,none,none,none,none,none],σ4,?_,trivial,k + 1,bstep S E b k,gn E (nth S k),_,by rw [h1',(by exact ln5 [(.eq .v2 (.a .v1 .k1)),(.sb .v2 .v4 .v3),(.sb .v0 .v4 (.a .v3 .k1))] (.eq .v0 .v1) (.s (.s (.s (.d 1101010001) (.d 1101010101)) (.s (.d 10001001) (.d 1101010001))) (.s (.s (.d 111000101) (.d 110000001)) (.s (.d 10001001) (.d 100101)))) rfl hm (sub_ax _ _) (sub_ax _ _):S.length - (k + 1)=m)],by exact ln2 [(.lt .v0 .v1)] (.le (.a .v0 .k1) .v1) (.d 111) rfl hj,hb.step,fun i h1 h2=>gn_mono E (nth_mono hSs (by exact ln2 [(.le (.a .v0 .k1) .v1)] (.le .v0 .v1) (.d 111) rfl h1) h2),rfl,rfl⟩
   refine xs_cons (show exec _ (St.whl _ _) _ _=_ from hw) (xs_one ?_)
   unfold bstep
   by_cases c:b.1 < (k:Int) + 1 - gn E (nth S k)
   ·rw [if_pos c]
    exact x_ift (e_cmp (e_bin (e_bin (e_var rfl) e_lit (bin_add _ _ _)) (e_var rfl) (bin_sub _ _ _)) (e_idx (e_var rfl) e_lit (getIdx_p0 _ _ _)) (gtT c)) (xs_one (x_asg (e_tup (es_cons (e_bin (e_bin (e_var rfl) e_lit (bin_add _ _ _)) (e_var rfl) (bin_sub _ _ _)) (es_cons (e_idx (e_var rfl) (e_var rfl) gS) es_nil)) rfl) rfl))
   ·rw [if_neg c]
    exact x_iff (e_cmp (e_bin (e_bin (e_var rfl) e_lit (bin_add _ _ _)) (e_var rfl) (bin_sub _ _ _)) (e_idx (e_var rfl) e_lit (getIdx_p0 _ _ _)) (gtF c)) xs_nil
 refine byC fun hX=>?_;obtain ⟨_,_,e5,b,o1,o2,hB,rfl,hq⟩:=e5;refine hX ?_;clear hX
 rw [hq] at e5
 refine ⟨b,hB,?_⟩
 refine byC fun hX=>?_;revert h4;refine rE fun t hO1=>?_;obtain rfl:=hO1;refine hX ?_;clear hX
 exact ev_fn hF rfl (xs_cons (x_expr (e_call (es_cons (e_var rfl) (es_cons (e_var rfl) es_nil)) (ev_span h1 h2 d lo hi hl1 hle hh σ))) (xs_cons e1 (xs_cons e2 (xs_cons (x_asg (e_tup (es_cons e_lit (es_cons (e_var rfl) es_nil)) rfl) rfl) (xs_cons (x_asg e_lit rfl) (xs_cons e5 (xs_ret (x_ret (e_var rfl))))))))) rfl
end Mini.Internal
set_option exponentiation.threshold 2000
namespace Mini.Internal
open PySem
variable {ρ ρ' ρ1:List Addr}{σ σ' σ1:H}{s s' s1:Shared}{h h':Heap}{ℓ ℓ':L}
section
variable {pg:Pg}{w n:Nat}{σ:H}{t:Tr}{m:Int}
theorem nilA {r:X V}{v:V} (h:r=some (.ok v,σ)):r=some (.ok v,σ++[]):=by rw [List.append_nil];exact h
theorem appA {r:X V}{v:V}{a b:H} (h:r=some (.ok v,(σ++a)++b)):r=some (.ok v,σ++(a++b)):=by rw [← List.append_assoc];exact h
theorem called_ok (P : PY pg) (d : Nat) {c : Nat} (hc : c < 9) (hw : Wd w n σ t m) (hz : t.sz ≤ 2) (hs : Srt3 t.tl) (hab : ∀ x ∈ t.tl, x.a ≤ x.b) {lo hi mk : V} (hg : good (c : Nat) lo hi mk = true) :
  ∃v τ,callF pg (d + 10) 22 [.obj w,.int (c:Nat),lo,hi,mk] σ=some (.ok v,σ++τ)∧(c=7→v=.tup [lo,hi,mk]∧num lo=true∧num hi=true∧num mk=true):=by
 have hg:(if (c:Int)=0 then num lo else if span lo hi=true then decide ((c:Int) < 7) || num mk else false)=true:=hg
 have sp:c≠0→span lo hi=true∧(7≤c→num mk=true):=fun h0=>by
  rw [if_neg (by exact ln1 [(.no (.eq .v0 .k0))] (.no (.zeq (.n .v0) .k0)) (.s (.d 1011) (.d 1101)) rfl h0)] at hg
  cases hs:span lo hi with
  | false=>rw [hs] at hg;exact ft hg
  | true=>
   rw [hs,if_pos rfl] at hg
   refine ⟨rfl,fun h7=>?_⟩
   rw [decide_eq_false (by exact ln1 [(.le (.k 7) .v0)] (.no (.zlt (.n .v0) (.k 7))) (.d 111) rfl h7),Bool.false_or] at hg;exact hg
 have htl:t.tl.length≤2:=by rw [Tr.sz_tl];exact hz
 by_cases h0:c=0
 ·subst h0
  have hn:num lo=true:=hg
  refine byC fun hX=>?_;refine rEAA (fun a hO1 h1 h2=>?_) (num_inv hn);obtain rfl:=hO1;refine hX ?_;clear hX
  exact ⟨_,_,ev_called P.f22 (d + 9) (c:=0) (by decide) (show evalE _ _ _ _=_ from e_ucall (e_var rfl) ((hw.mt 7).trans P.m7) (es_cons (e_var rfl) es_nil) (ev_hold8 P.toP2 P.f15 P.f76 P.f77 P.m6 (d + 5) a h1 h2 hw hs (by exact ln2 [(.le .v0 (.k 2))] (.le .v0 (.a .v1 (.k 5))) (.d 111) rfl hz) (by exact ln1 [(.le .v0 (.k 2))] (.lt .v0 (.k 1000)) (.d 111) rfl hz))),fun h=>absurd h (by decide)⟩
 refine rA (fun hsp hmk=>?_) (sp h0)
 refine byC fun hX=>?_;refine rEEAAAA (fun a b hO2 hO3 h1 h2 h3=>?_) (span_inv hsp);obtain rfl:=hO2;obtain rfl:=hO3;refine hX ?_;clear hX
 have hnl:num (.int a)=true:=and_l (and_l hsp)
 have hnh:num (.int b)=true:=and_r (and_l hsp)
 have lst:=listed2 P (d + 3) hw hz
 have hrow:(σ++[O.list (t.tl.map T3.v)])[σ.length]? = some (.list (t.tl.map T3.v)):=by simp
 have hone:(σ++[O.list [V.tup [.int 0,.int 0,.int 0]]])[σ.length]? = some (.list ([(⟨0,0,0⟩ : T3)].map T3.v)):=by simp [T3.v]
 have hc':=hc
 revert hc h0 hmk
 refine c11 ?_ ?_ ?_ ?_ ?_ ?_ ?_ ?_ ?_ ?_ ?_ c (Nat.lt_trans hc' (by decide))
 ·exact fun u_ h=>absurd rfl h
 ·intro _ _ _
  exact ⟨_,_,ev_called P.f22 (d + 9) (c:=1) (by decide) (show evalE _ _ _ _=_ from e_ucall (e_var rfl) ((hw.mt 6).trans P.m6) (es_cons (e_var rfl) (es_cons (e_var rfl) es_nil)) (ev_meet8 P.toP2 P.f15 P.f76 (d + 6) a b h1 h2 h3 hw hs (by exact ln2 [(.le .v0 (.k 2))] (.le .v0 (.a .v1 (.k 6))) (.d 111) rfl hz) (by exact ln1 [(.le .v0 (.k 2))] (.lt .v0 (.k 1000)) (.d 111) rfl hz))),fun h=>absurd h (by decide)⟩
 ·intro _ _ _
  exact ⟨_,[],nilA (ev_called P.f22 (d + 9) (c:=2) (by decide) (show evalE _ _ _ _=_ from e_ucall (e_var rfl) ((hw.mt 8).trans P.m8) (es_cons (e_var rfl) (es_cons (e_var rfl) es_nil)) (ev_looks P.toP2 P.f15 P.f78 (d + 6) a b h1 h2 h3 hw (by exact ln2 [(.le .v0 (.k 2))] (.le .v0 (.a .v1 (.k 6))) (.d 111) rfl hz) (by exact ln1 [(.le .v0 (.k 2))] (.lt .v0 (.k 1000)) (.d 111) rfl hz)))),fun h=>absurd h (by decide)⟩
 ·intro _ _ _
  have hg4:=ev_gaps P.f1 P.f2 P.f4 (d + 5) a b h1 h2 h3 (σ++[.list (t.tl.map T3.v)]) σ.length t.tl hrow (by exact ln1 [(.le .v0 (.k 2))] (.le .v0 (.k 1000)) (.d 111) rfl htl)
  have h79:callF pg (d + 9) 79 [.obj w,.int a,.int b] σ=some (.ok (.obj σ.length),σ++[.list (prs (gapsW b t.tl a []))]):=by
   refine ev_fnF (d:=d + 8) P.f79 rfl (ℓ':=[some (.obj w),some (.int a),some (.int b),none,none,none,none,none,none,none,none]) (t:=[.list (t.tl.map T3.v)]++[.list (prs (gapsW b t.tl a []))]) (m:=(σ++[O.list (t.tl.map T3.v)]).length) ?_ (by simp) (belows_tups _ _) ?_
   ·rw [← List.append_assoc]
    exact xs_ret (x_ret (e_call (es_cons (e_ucall (e_var rfl) ((hw.mt 4).trans P.m4) es_nil lst) (es_cons (e_var rfl) (es_cons (e_var rfl) es_nil))) hg4))
   ·rw [← List.append_assoc]
    show ((σ++[O.list (t.tl.map T3.v)])++[O.list (prs (gapsW b t.tl a []))])[(σ++[O.list (t.tl.map T3.v)]).length]? = _
    rw [List.getElem?_append_right (Nat.le_refl _),Nat.sub_self];rfl
  exact ⟨_,_,ev_called P.f22 (d + 9) (c:=3) (by decide) (show evalE _ _ _ _=_ from e_ucall (e_var rfl) ((hw.mt 9).trans P.m9) (es_cons (e_var rfl) (es_cons (e_var rfl) es_nil)) h79),fun h=>absurd h (by decide)⟩
 ·intro _ _ _
  refine rEA (fun bb u1_ hd6=>?_) (ev_deepest P.f1 P.f2 P.f6 (d + 5) a b h1 h2 h3 (σ++[.list (t.tl.map T3.v)]) σ.length t.tl hab hrow htl)
  have h81:callF pg (d + 9) 81 [.obj w,.int a,.int b] σ=some (.ok (.tup [.int bb.1,.int bb.2]),σ) :=
   ev_fn (d:=d + 8) P.f81 rfl (xs_ret (x_ret (e_call (es_cons (e_ucall (e_var rfl) ((hw.mt 4).trans P.m4) es_nil lst) (es_cons (e_var rfl) (es_cons (e_var rfl) es_nil))) hd6))) rfl
  exact ⟨_,[],nilA (ev_called P.f22 (d + 9) (c:=4) (by decide) (show evalE _ _ _ _=_ from e_ucall (e_var rfl) ((hw.mt 11).trans P.m11) (es_cons (e_var rfl) (es_cons (e_var rfl) es_nil)) h81)),fun h=>absurd h (by decide)⟩
 ·intro _ _ _
  have hg4:=ev_gaps P.f1 P.f2 P.f4 (d + 6) a b h1 h2 h3 (σ++[.list [.tup [.int 0,.int 0,.int 0]]]) σ.length [⟨0,0,0⟩] hone (by decide)
  exact ⟨_,[.list [.tup [.int 0,.int 0,.int 0]]]++[.list (prs (gapsW b [⟨0,0,0⟩] a []))],appA (ev_called P.f22 (d + 9) (c:=5) (by decide) (evalX_of (e_call (es_cons (e_lst (es_cons (e_tup (es_cons e_lit (es_cons e_lit (es_cons e_lit es_nil))) rfl) es_nil) rfl) (es_cons (e_var rfl) (es_cons (e_var rfl) es_nil))) hg4))),fun h=>absurd h (by decide)⟩
 ·intro _ _ _
  refine rEA (fun bb u1_ hd6=>?_) (ev_deepest P.f1 P.f2 P.f6 (d + 6) a b h1 h2 h3 (σ++[.list [.tup [.int 0,.int 0,.int 0]]]) σ.length [⟨0,0,0⟩] (by decide) hone (by decide))
  exact ⟨_,_,ev_called P.f22 (d + 9) (c:=6) (by decide) (evalX_of (e_call (es_cons (e_lst (es_cons (e_tup (es_cons e_lit (es_cons e_lit (es_cons e_lit es_nil))) rfl) es_nil) rfl) (es_cons (e_var rfl) (es_cons (e_var rfl) es_nil))) hd6)),fun h=>absurd h (by decide)⟩
 ·intro _ _ hmk
  refine byC fun hX=>?_;refine rEAA (fun mi hO1 h4 h5=>?_) (num_inv (hmk (by decide)));obtain rfl:=hO1;refine hX ?_;clear hX
  exact ⟨_,[],nilA (ev_called P.f22 (d + 9) (c:=7) (by decide) (evalX_of (e_call (es_cons (e_var rfl) (es_cons (e_var rfl) (es_cons (e_var rfl) es_nil))) (ev_st P.toP2 (d + 6) ⟨a,b,mi⟩ σ ⟨h1,h2,h3,h4,h5⟩)))),fun u_=>⟨rfl,hnl,hnh,hmk (by decide)⟩⟩
 ·intro _ _ hmk
  refine byC fun hX=>?_;refine rEAA (fun mi hO1 h4 h5=>?_) (num_inv (hmk (by decide)));obtain rfl:=hO1;refine hX ?_;clear hX
  exact ⟨_,[],nilA (ev_called P.f22 (d + 9) (c:=8) (by decide) (show evalE _ _ _ _=_ from e_ucall (e_var rfl) ((hw.mt 3).trans P.m3) (es_cons (e_var rfl) (es_cons (e_var rfl) (es_cons (e_var rfl) es_nil))) (ev_keeps P.toP2 P.f13 P.f73 (d + 5) hw ⟨a,b,mi⟩ ⟨h1,h2,h3,h4,h5⟩ (by lia)))),fun h=>absurd h (by decide)⟩
 ·exact fun h=>absurd h (by decide)
 ·exact fun h=>absurd h (by decide)
end
end Mini.Internal
set_option exponentiation.threshold 2000
namespace Mini.Internal
open PySem
variable {ρ ρ' ρ1:List Addr}{σ σ' σ1:H}{s s' s1:Shared}{h h':Heap}{ℓ ℓ':L}
noncomputable def wDone:Str:={ cps:=#[100,111,110,101] }
section
variable {C:Cl}{b:Ss}{k i f j:Nat}{ℓ ℓ1:L}{σ σ1:H}
set_option tactic.hygienic true in
theorem x_tryN (q:execs C b ℓ σ=some (.next,ℓ1,σ1)):exec C (.try_ b k i f) ℓ σ=some (.next,ℓ1,σ1):=by
 show caughtC (execs C b ℓ σ) k i _=_
 rw [q];rfl
theorem x_tryX {w:Str} (q:execs C b ℓ σ=some (.exc j,ℓ1,σ1)) (h1:excSub j k=true) (h2:j < 100) (h3:i < ℓ1.length) (hc:C.call f [.ty (100 + j)] σ1=some (.ok (.str w),σ1)):exec C (.try_ b k i f) ℓ σ=some (.ret (.str w),[],σ1):=by
 show caughtC (execs C b ℓ σ) k i _=_
 rw [q]
 show (if (excSub j k=true∧j < 100)∧i < ℓ1.length then backStr σ1 (C.call f [.ty (100 + j)] σ1) else .none)=_
 rw [if_pos ⟨⟨h1,h2⟩,h3⟩,hc]
 exact if_pos List.take_length
theorem x_asgXx {e:Ex}{t:Tg} (q:evalX C e ℓ σ=some (.exc j,σ1)):exec C (.asg t e) ℓ σ=some (.exc j,ℓ,σ1):=bndY_ex q
end
section
variable {pg:Pg}{w n:Nat}{σ:H}{t:Tr}{m:Int}
theorem word_exc (P:PY pg) (d:Nat) {v c lo hi mk:V}{j:Nat} (hj:j=11∨j=12∨j=13) (h:callF pg (d + 1) 22 [v,c,lo,hi,mk] σ=some (.exc j,σ')):callF pg (d + 2) 24 [v,c,lo,hi,mk] σ=some (.ok (.str (wordX j)),σ'):=by
 refine ev_raw P.f24 rfl (rx_ret (xs_ret (x_tryX (j:=j) (ℓ1:=[some v,some c,some lo,some hi,some mk,none,none,none,none,none,none,none,none,none,none,none]) (xs_exc (x_asgXx (evalX_call (argsX_of (es_cons (e_var rfl) (es_cons (e_var rfl) (es_cons (e_var rfl) (es_cons (e_var rfl) (es_cons (e_var rfl) es_nil)))))) h))) ?_ ?_ (Nat.le_of_ble_eq_true rfl) (ev_named P.f23 d j hj σ'))))
 ·rcases hj with rfl | rfl | rfl <;> rfl
 ·exact ln1 [(.or (.eq .v0 (.k 11)) (.or (.eq .v0 (.k 12)) (.eq .v0 (.k 13))))] (.lt .v0 (.k 100)) (.s (.d 111) (.s (.d 111) (.d 111))) rfl hj
set_option tactic.hygienic true in
theorem word_ok (P:PY pg) (d:Nat) {v lo hi mk r:V}{c:Int} (h:callF pg (d + 1) 22 [v,.int c,lo,hi,mk] σ=some (.ok r,σ')) (h7:c=7→r=.tup [lo,hi,mk]∧num lo=true∧num hi=true∧num mk=true) (h8:8 < c→r=.none):callF pg (d + 2) 24 [v,.int c,lo,hi,mk] σ=some (.ok (.str wDone),σ'):=by
 have s0:exec ⟨pg,callF pg (d + 1)⟩ S24_0 [some v,some (.int c),some lo,some hi,some mk,none,none,none,none,none,none,none,none,none,none,none] σ=some (.next,[some v,some (.int c),some lo,some hi,some mk,some r,none,none,none,none,none,none,none,none,none,none],σ'):=x_tryN (xs_one (x_asg (e_call (es_cons (e_var rfl) (es_cons (e_var rfl) (es_cons (e_var rfl) (es_cons (e_var rfl) (es_cons (e_var rfl) es_nil))))) h) rfl))
 have c7:evalE ⟨pg,callF pg (d + 1)⟩ (Ex.cmp (Ex.var 1) (Ch.one Cop.eq (Ex.lit (V.int 7)))) [some v,some (.int c),some lo,some hi,some mk,some r,none,none,none,none,none,none,none,none,none,none] σ'=some (.ok (.bool (decide (c=7))),σ'):=e_cmp (e_var rfl) e_lit rfl
 have c8:evalE ⟨pg,callF pg (d + 1)⟩ (Ex.cmp (Ex.var 1) (Ch.one Cop.gt (Ex.lit (V.int 8)))) [some v,some (.int c),some lo,some hi,some mk,some r,none,none,none,none,none,none,none,none,none,none] σ'=some (.ok (.bool (decide (8 < c))),σ'):=e_cmp (e_var rfl) e_lit rfl
 by_cases e7:c=7
 ·refine byC fun hX=>?_;refine rAAA (fun hO0 n1 n2 n3=>?_) (h7 e7);obtain rfl:=hO0;refine hX ?_;clear hX
  refine byC fun hX=>?_;refine rEAA (fun a hO1 u2_ u3_=>?_) (num_inv n1);obtain rfl:=hO1;refine hX ?_;clear hX
  refine byC fun hX=>?_;refine rEAA (fun b hO1 u2_ u3_=>?_) (num_inv n2);obtain rfl:=hO1;refine hX ?_;clear hX
  refine byC fun hX=>?_;refine rEAA (fun k hO1 u2_ u3_=>?_) (num_inv n3);obtain rfl:=hO1;refine hX ?_;clear hX
  rw [decide_eq_true e7] at c7
  have eqt:cmpop .eq (.tup [.int a,.int b,.int k]) (.tup [.int a,.int b,.int k]) σ'=some true:=by
   have:=eqT3 ⟨a,b,k⟩ ⟨a,b,k⟩ σ'
   rw [decide_eq_true rfl] at this
   exact this
  have nm:∀{i:Nat}{x:Int}{ℓ:L},num (.int x)=true→ℓ[5]?.join=some (.tup [.int a,.int b,.int k])→getIdx σ' (.tup [.int a,.int b,.int k]) (.int i)=some (.int x)→evalE ⟨pg,callF pg (d + 1)⟩ (Ex.call 20 (Es.cons (Ex.idx (Ex.var 5) (Ex.lit (V.int i))) Es.nil)) ℓ σ'=some (.ok (.bool true),σ'):=fun {i x ℓ} hn h5 hg=>by
   have:=ev_number P.f20 d (σ:=σ') (.int x)
   rw [hn] at this
   exact e_call (es_cons (e_idx (e_var h5) e_lit hg) es_nil) this
  exact ev_raw P.f24 rfl (rx_ret (xs_cons s0 (xs_ret (x_ift c7 (xs_cons (x_asg (v:=.bool true) (e_andt (e_blt (es_cons (e_var rfl) (es_cons e_ty es_nil)) rfl) (e_andt (e_cmp (e_blt (es_cons (e_var rfl) es_nil) rfl) e_lit rfl) (e_cmp (e_var rfl) (e_tup (es_cons (e_var rfl) (es_cons (e_var rfl) (es_cons (e_var rfl) es_nil))) rfl) eqt))) rfl) (xs_ret (x_ret (e_bin e_lit (e_blt (es_cons (e_andt (e_var rfl) (e_andt (nm (i:=0) n1 rfl rfl) (e_andt (nm (i:=1) n2 rfl rfl) (nm (i:=2) n3 rfl rfl)))) es_nil) rfl) rfl))))))))
 ·rw [decide_eq_false e7] at c7
  by_cases e8:8 < c
  ·rw [decide_eq_true e8] at c8
   obtain rfl:=h8 e8
   exact ev_raw P.f24 rfl (rx_ret (xs_cons s0 (xs_cons (x_iff c7 xs_nil) (xs_ret (x_ift c8 (xs_ret (x_ret (e_bin e_lit (e_blt (es_cons (e_cmp (e_var rfl) e_lit rfl) es_nil) rfl) rfl))))))))
  ·rw [decide_eq_false e8] at c8
   exact ev_raw P.f24 rfl (rx_ret (xs_cons s0 (xs_cons (x_iff c7 xs_nil) (xs_cons (x_iff c8 xs_nil) (xs_ret (x_ret e_lit))))))
noncomputable def After (w n:Nat) (σ:H) (t:Tr) (c:Nat) (lo hi mk:V) (W:Str) (σ':H):Prop :=
  (∀(k:Nat) l,σ[k]? = some (.list l)→σ'[k]? = some (.list l))∧∃t' m',Wd w n σ' t' m'∧Srt3 t'.tl∧
  ((good (c:Nat) lo hi mk=false∧W=wordX 11∧t'=t)∨(good (c:Nat) lo hi mk=true∧c < 9∧W=wDone∧t'=t)∨
   ∃x:T3,lo=.int x.a∧hi=.int x.b∧mk=.int x.c∧good (c:Nat) lo hi mk=true∧
     ((c=9∧x∈t.tl∧W=wordX 12∧t'=t)∨(c=9∧x ∉ t.tl∧W=wDone∧∀y,y∈t'.tl↔y=x∨y∈t.tl)∨
      (c=10∧x ∉ t.tl∧W=wordX 13∧t'=t)∨(c=10∧x∈t.tl∧W=wDone∧∀y,y∈t'.tl↔(y≠x∧y∈t.tl))))
theorem ev_word (P : PY pg) (d : Nat) {c : Nat} (hc : c < 11) (hw : Wd w n σ t m) (hz : t.sz ≤ 2) (hs : Srt3 t.tl) (hab : ∀ x ∈ t.tl, x.a ≤ x.b) {lo hi mk : V} (tl : Th σ lo) (th : Th σ hi) (tm : Th σ mk) :
  ∃W σ',callF pg (d + 11) 24 [.obj w,.int (c:Nat),lo,hi,mk] σ=some (.ok (.str W),σ')∧After w n σ t c lo hi mk W σ':=by
 have keep:∀t' m' (k:Nat) l,σ[k]? = some (.list l)→(setObj σ n (.ns [(0,Tr.v t'),(1,.int m')]))[k]? = some (.list l):=fun t' m' k l h=>set_get h fun e=>by
  have:=hw.1;rw [← e,h] at this;cases this
 cases hg:good (c:Nat) lo hi mk with
 | false=>
  refine rE (fun τ hcall=>?_) (called_bad P d hc hw hz tl th tm hg)
  exact ⟨_,_,word_exc P (d + 9) (.inl rfl) hcall,fun k l h=>get_app h,t,m,hw.app,hs,.inl ⟨hg,rfl,rfl⟩⟩
 | true=>
  by_cases h9:c < 9
  ·refine rEEA (fun v τ hcall h7=>?_) (called_ok P d h9 hw hz hs hab hg)
   exact ⟨_,_,word_ok P (d + 9) hcall (fun e=>h7 (by exact ln1 [(.zeq (.n .v0) (.k 7))] (.eq .v0 (.k 7)) (.s (.d 1101) (.d 111)) rfl e)) (fun h=>by lia),fun k l h=>get_app h,t,m,hw.app,hs,.inr (.inl ⟨hg,h9,rfl,rfl⟩)⟩
  ·have hg':(if (c:Int)=0 then num lo else if span lo hi=true then decide ((c:Int) < 7) || num mk else false)=true:=hg
   rw [if_neg (by exact ln1 [(.no (.lt .v0 (.k 9)))] (.no (.zeq (.n .v0) .k0)) (.d 1101) rfl h9)] at hg'
   obtain ⟨hsp,hmk⟩ : span lo hi=true∧num mk=true:=by
    cases hs:span lo hi with
    | false=>rw [hs] at hg';exact ft hg'
    | true=>
     rw [hs,if_pos rfl,decide_eq_false (by exact ln1 [(.no (.lt .v0 (.k 9)))] (.no (.zlt (.n .v0) (.k 7))) (.d 111) rfl h9),Bool.false_or] at hg'
     exact ⟨rfl,hg'⟩
   refine byC fun hX=>?_;refine rEEAAAA (fun a b hO2 hO3 h1 h2 h3=>?_) (span_inv hsp);obtain rfl:=hO2;obtain rfl:=hO3;refine hX ?_;clear hX
   refine byC fun hX=>?_;refine rEAA (fun mi hO1 h4 h5=>?_) (num_inv hmk);obtain rfl:=hO1;refine hX ?_;clear hX
   have ho:okT ⟨a,b,mi⟩:=⟨h1,h2,h3,h4,h5⟩
   by_cases e9:c=9
   ·subst e9
    have hp:=ev_put P.toP2 (d + 4) ⟨a,b,mi⟩ ho hw (by exact ln2 [(.le .v0 (.k 2))] (.le .v0 (.a .v1 (.k 4))) (.d 111) rfl hz)
    rcases Tr.ins_ok ⟨a,b,mi⟩ hs with ⟨i1,i2⟩ | ⟨t',i1,i2,i3,i4⟩
    ·rw [i1] at hp
     exact ⟨_,_,word_exc P (d + 9) (.inr (.inl rfl)) (ev_called P.f22 (d + 9) (c:=9) (by decide) (show evalE _ _ _ _=_ from e_ucall (e_var rfl) ((hw.mt 1).trans P.m1) (es_cons (e_var rfl) (es_cons (e_var rfl) (es_cons (e_var rfl) es_nil))) hp)),fun k l h=>h,t,m,hw,hs,.inr (.inr ⟨⟨a,b,mi⟩,rfl,rfl,rfl,hg,.inl ⟨rfl,i2,rfl,rfl⟩⟩)⟩
    ·rw [i1] at hp
     exact ⟨_,_,word_ok P (d + 9) (c:=9) (ev_called P.f22 (d + 9) (c:=9) (by decide) (show evalE _ _ _ _=_ from e_ucall (e_var rfl) ((hw.mt 1).trans P.m1) (es_cons (e_var rfl) (es_cons (e_var rfl) (es_cons (e_var rfl) es_nil))) hp)) (fun h=>by lia) (fun u_=>rfl),keep t' (m + 1),t',m + 1,hw.set t' (m + 1),i3,.inr (.inr ⟨⟨a,b,mi⟩,rfl,rfl,rfl,hg,.inr (.inl ⟨rfl,i2,rfl,i4⟩)⟩)⟩
   ·obtain rfl:c=10:=by exact ln1 [(.lt .v0 (.k 11)),(.no (.lt .v0 (.k 9))),(.no (.eq .v0 (.k 9)))] (.eq .v0 (.k 10)) (.s (.s (.d 10011) (.d 11001)) (.s (.d 111) (.d 111))) rfl hc h9 e9
    have hp:=ev_take P.toP2 (d + 4) ⟨a,b,mi⟩ ho hw (by exact ln2 [(.le .v0 (.k 2))] (.le .v0 (.a .v1 (.k 4))) (.d 111) rfl hz) (by exact ln1 [(.le .v0 (.k 2))] (.lt .v0 (.k 1000)) (.d 111) rfl hz)
    rcases Tr.del_ok ⟨a,b,mi⟩ hs with ⟨i1,i2⟩ | ⟨t',i1,i2,i3,i4⟩
    ·rw [i1] at hp
     exact ⟨_,_,word_exc P (d + 9) (.inr (.inr rfl)) (ev_called P.f22 (d + 9) (c:=10) (by decide) (show evalE _ _ _ _=_ from e_ucall (e_var rfl) ((hw.mt 2).trans P.m2) (es_cons (e_var rfl) (es_cons (e_var rfl) (es_cons (e_var rfl) es_nil))) hp)),fun k l h=>h,t,m,hw,hs,.inr (.inr ⟨⟨a,b,mi⟩,rfl,rfl,rfl,hg,.inr (.inr (.inl ⟨rfl,i2,rfl,rfl⟩))⟩)⟩
    ·rw [i1] at hp
     exact ⟨_,_,word_ok P (d + 9) (c:=10) (ev_called P.f22 (d + 9) (c:=10) (by decide) (show evalE _ _ _ _=_ from e_ucall (e_var rfl) ((hw.mt 2).trans P.m2) (es_cons (e_var rfl) (es_cons (e_var rfl) (es_cons (e_var rfl) es_nil))) hp)) (fun h=>by lia) (fun u_=>rfl),keep t' (m - 1),t',m - 1,hw.set t' (m - 1),i3,.inr (.inr ⟨⟨a,b,mi⟩,rfl,rfl,rfl,hg,.inr (.inr (.inr ⟨rfl,i2,rfl,i4⟩))⟩)⟩
end
end Mini.Internal
set_option exponentiation.threshold 2000
namespace Mini.Internal
open PySem
variable {ρ ρ' ρ1:List Addr}{σ σ' σ1:H}{s s' s1:Shared}{h h':Heap}{ℓ ℓ':L}
theorem eqStr {s s':Str}{b:Bool} (h:PyData.strOk s=true) (h':PyData.strOk s'=true) (hb:PyData.eqv (.str s) (.str s')=b) (σ:H):cmpop .eq (.str s) (.str s') σ=some b:=by
 have e1:∀s:Str,PyData.strOk s=true→toD 6 σ (.str s)=some (.str s):=fun s h=>if_pos h
 show eqV σ (.str s) (.str s')=_
 unfold eqV
 rw [e1 s h,e1 s' h',← hb]
theorem neStr {s s':Str}{b:Bool} (h:PyData.strOk s=true) (h':PyData.strOk s'=true) (hb:PyData.eqv (.str s) (.str s')=b) (σ:H):cmpop .ne (.str s) (.str s') σ=some (!b):=by
 have:=eqStr h h' hb σ
 show (eqV σ (.str s) (.str s')).map (!·)=_
 rw [show eqV σ (.str s) (.str s')=some b from this];rfl
theorem T3.le_ne {x y:T3} (h:T3.le x y=true) (hn:x≠y):T3.lt x y=true:=by
 rw [T3.lt_iff];rw [le3_iff] at h
 rcases h with h | ⟨h1,h | ⟨h2,h3⟩⟩
 ·exact .inl h
 ·exact .inr ⟨h1,.inl h⟩
 ·exact .inr ⟨h1,.inr ⟨h2,Int.lt_iff_le_and_ne.mpr ⟨h3,fun e=>hn (T3.eq_iff.mpr ⟨h1,h2,e⟩)⟩⟩⟩
theorem srt_merge3 {l:List T3} (hn:l.Nodup):Srt3 (l.mergeSort T3.le):=by
 have h1:(l.mergeSort T3.le).Pairwise (fun x y=>T3.le x y=true):=List.pairwise_mergeSort (le:=T3.le) (fun u_ v_ w_=>le3_trans) (fun a b=>by
  show (T3.le a b || T3.le b a)=true
  cases h:T3.le a b with
  | true=>rfl
  | false=>exact le3_total h) l
 have h2:(l.mergeSort T3.le).Nodup:=(List.mergeSort_perm l T3.le).nodup_iff.mpr hn
 exact (h1.and h2).imp fun h=>T3.le_ne h.1 h.2
theorem Srt3.nodup {l:List T3} (h:Srt3 l):l.Nodup:=List.Pairwise.imp (fun h e=>by subst e;exact T3.lt_irr _ h) h
theorem asc_srt (x:T3):∀{ts:List T3},Srt3 ts→ascB (ts++[x])=true
 | [],_=>rfl
 | [y],_=>rfl
 | y::z::r,h=>by
  have h':=List.pairwise_cons.mp h
  have:T3.le z y=false:=lt_nle (T3.lt_iff.mp (h'.1 z List.mem_cons_self))
  show (((r++[x]).isEmpty || !T3.le z y) && ascB (z::r++[x]))=true
  rw [this,asc_srt x h'.2];simp
theorem toDs_t3' (σ:H):∀ts:List T3,(ts.map T3.v).mapM (toD 6 σ)=some (ts.map tD)
 | []=>rfl
 | x::r=>by
  have h1:toD 6 σ x.v=some (tD x):=toD_tup 4 σ [x.a,x.b,x.c]
  simp only [List.map_cons,List.mapM_cons,h1,toDs_t3' σ r];rfl
theorem tD_eqv (y x:T3):PyData.eqv (tD y) (tD x)=decide (y=x):=by
 have:=eqvAll_int [y.a,y.b,y.c] [x.a,x.b,x.c]
 have e:(decide ([y.a,y.b,y.c]=[x.a,x.b,x.c]))=decide (y=x):=by rw [decide_eq_decide,T3.eq_iff];simp
 rw [e] at this
 exact this
theorem in_t3 {r:Nat}{ts:List T3} (hr:σ[r]? = some (.list (ts.map T3.v))) (x:T3):cmpop .mem x.v (.obj r) σ=some (decide (x∈ts)):=by
 show (items σ (.obj r)).bind (inV σ x.v)=_
 rw [items_get hr]
 show inV σ x.v (ts.map T3.v)=_
 unfold inV
 rw [toDs_t3',show toD 6 σ x.v=some (tD x) from toD_tup 4 σ [x.a,x.b,x.c]]
 show some ((ts.map tD).any fun y=>PyData.eqv y (tD x))=_
 rw [List.any_map]
 congr 1
 rw [Bool.eq_iff_iff,List.any_eq_true,decide_eq_true_eq]
 constructor
 ·intro hR0
  revert hR0;refine rEA fun y hy h=>?_
  rw [Function.comp,tD_eqv,decide_eq_true_eq] at h
  exact h ▸ hy
 ·intro h
  exact ⟨x,h,by rw [Function.comp,tD_eqv];simp⟩
theorem nin_t3 {r:Nat}{ts:List T3} (hr:σ[r]? = some (.list (ts.map T3.v))) (x:T3):cmpop .nmem x.v (.obj r) σ=some (!decide (x∈ts)):=by
 have:=in_t3 hr x
 show ((items σ (.obj r)).bind (inV σ x.v)).map (!·)=_
 rw [show (items σ (.obj r)).bind (inV σ x.v)=some (decide (x∈ts)) from this];rfl
theorem e_slc {C:Cl}{a:Ex}{lo hi st:Oe}{σ2 σ3 σ4 σ5:H}{x l u s v:V} (ha:evalE C a ℓ σ=some (.ok x,σ1)) (hl:evalOe C lo ℓ σ1=some (.ok l,σ2)) (hu:evalOe C hi ℓ σ2=some (.ok u,σ3)) (hs:evalOe C st ℓ σ3=some (.ok s,σ4)) (h:sliceV σ4 x l u s=some (v,σ5)):evalE C (.slc a lo hi st) ℓ σ=some (.ok v,σ5) :=
 (bok_eq ha).trans ((bok_eq hl).trans ((bok_eq hu).trans ((bok_eq hs).trans (by show okH (sliceV σ4 x l u s)=_;rw [h];rfl))))
set_option tactic.hygienic true in
theorem x_asg3 {C:Cl}{e:Ex}{i j k:Nat}{a b c:V} (h:evalE C e ℓ σ=some (.ok (.tup [a,b,c]),σ1)) (hi:Nat.blt i ℓ.length=true) (hj:Nat.blt j ℓ.length=true) (hk:Nat.blt k ℓ.length=true):exec C (.asg (.three i j k) e) ℓ σ=some (.next,((ℓ.set i (some a)).set j (some b)).set k (some c),σ1):=by
 refine (bndY_eq h).trans ?_
 show (((setL ℓ i a).bind fun ℓ1=>(setL ℓ1 j b).bind fun ℓ2=>(setL ℓ2 k c).bind fun ℓ3=>some ℓ3)).map _=_
 have hi:=Nat.le_of_ble_eq_true hi
 have hj:=Nat.le_of_ble_eq_true hj
 have hk:=Nat.le_of_ble_eq_true hk
 unfold setL
 rw [if_pos (show i < ℓ.length from hi),Option.bind_some,if_pos (by rw [List.length_set];exact hj),Option.bind_some,if_pos (by rw [List.length_set,List.length_set];exact hk)]
 rfl
end Mini.Internal
set_option exponentiation.threshold 2000
namespace Mini.Internal
open PySem
variable {ρ ρ' ρ1:List Addr}{σ σ' σ1:H}{s s' s1:Shared}{h h':Heap}{ℓ ℓ':L}
noncomputable def K0:List T3:=[⟨0,0,0⟩,⟨2,5,1⟩]
noncomputable def lc2 (scr:List Int) (rk:Nat) (v3 v4 v5 v6 v7 v8:Option V):L:=[some (.frz scr),some (.obj rk),some (.obj 2),v3,v4,v5,v6,v7,v8,none,none,none,none,none,none,none,none]
section
variable {pg:Pg}
set_option tactic.hygienic true in
theorem put_st (P:PY pg) (e:Nat) {t t':Tr}{m:Int}{x:T3} (hw:Wd 2 1 σ t m) (h2:ℓ[2]?.join=some (.obj 2)) (h3:ℓ[3]?.join=some x.v) (ho:okT x) (hz:t.sz≤7) (hi:Tr.ins x t=some t'):execs ⟨pg,callF pg (e + 12)⟩ (Ss.cons (St.expr (Ex.ucall 1 (Ex.var 2) (Es.cons (Ex.idx (Ex.var 3) (Ex.lit (V.int 0))) (Es.cons (Ex.idx (Ex.var 3) (Ex.lit (V.int 1))) (Es.cons (Ex.idx (Ex.var 3) (Ex.lit (V.int 2))) Es.nil))))) Ss.nil) ℓ σ=some (.next,ℓ,setObj σ 1 (.ns [(0,t'.v),(1,.int (m + 1))])):=by
 have hp:=ev_put P.toP2 (e + 7) x ho hw (by lia)
 rw [hi] at hp
 exact xs_one (x_expr (e_ucall (e_var h2) ((hw.mt 1).trans P.m1) (es_cons (e_idx (e_var h3) e_lit rfl) (es_cons (e_idx (e_var h3) e_lit rfl) (es_cons (e_idx (e_var h3) e_lit rfl) es_nil))) hp))
set_option tactic.hygienic true in
theorem head2 (P:PY pg) (e:Nat) (scr:List Int):∃σ t m,Wd 2 1 σ t m∧σ[0]? = some (.list (K0.map T3.v))∧t.tl=K0∧∀(rest:Ss) (r:Y),execs ⟨pg,callF pg (e + 12)⟩ rest (lc2 scr 0 (some (T3.v ⟨2,5,1⟩)) none none none none none) σ=r→execs ⟨pg,callF pg (e + 12)⟩ (.cons S60_0 <| .cons S60_1 <| .cons S60_2 <| rest) [some (.frz scr),none,none,none,none,none,none,none,none,none,none,none,none,none,none,none,none] []=r:=by
 have w1:Wd 2 1 [.list (K0.map T3.v),.ns [(0,.none),(1,.int 0)],.inst 0 1] .nil 0:=⟨rfl,rfl⟩
 have w2:=w1.set (.node ⟨0,0,0⟩ .nil .nil) (0 + 1)
 obtain ⟨t,ht,htl⟩ : ∃t,Tr.ins ⟨2,5,1⟩ (.node ⟨0,0,0⟩ .nil .nil)=some t∧t.tl=K0:=⟨.node ⟨0,0,0⟩ .nil (.node ⟨2,5,1⟩ .nil .nil),by decide,rfl⟩
 have w3:=w2.set t (0 + 1 + 1)
 refine ⟨_,t,_,w3,rfl,htl,fun rest r h=>?_⟩
 have s0:exec ⟨pg,callF pg (e + 12)⟩ S60_0 [some (.frz scr),none,none,none,none,none,none,none,none,none,none,none,none,none,none,none,none] []=some (.next,[some (.frz scr),some (.obj 0),none,none,none,none,none,none,none,none,none,none,none,none,none,none,none],[.list (K0.map T3.v)]) :=
  x_asg (e_lst (es_cons (e_tup (es_cons e_lit (es_cons e_lit (es_cons e_lit es_nil))) rfl) (es_cons (e_tup (es_cons e_lit (es_cons e_lit (es_cons e_lit es_nil))) rfl) es_nil)) rfl) rfl
 have s1:exec ⟨pg,callF pg (e + 12)⟩ S60_1 [some (.frz scr),some (.obj 0),none,none,none,none,none,none,none,none,none,none,none,none,none,none,none] [.list (K0.map T3.v)]=some (.next,lc2 scr 0 none none none none none none,[.list (K0.map T3.v),.ns [(0,.none),(1,.int 0)],.inst 0 1]) :=
  x_asg (e_new P.init (ev_raw (d:=e + 11) P.f70 rfl (rx_next (ℓ':=[some (.obj 2),none,none,none,none,none,none,none,none]) (xs_cons (x_aset (evalX_of e_lit) (e_var rfl) (p:=(1,[])) rfl) (xs_one (x_aset (evalX_of e_lit) (e_var rfl) (p:=(1,[(0,.none)])) rfl)))))) rfl
 have p1:=put_st P e (ℓ:=lc2 scr 0 (some (T3.v ⟨0,0,0⟩)) none none none none none) w1 rfl rfl ⟨by decide,by decide,by decide,by decide,by decide⟩ (by decide) (t':=.node ⟨0,0,0⟩ .nil .nil) rfl
 have p2:=put_st P e (ℓ:=lc2 scr 0 (some (T3.v ⟨2,5,1⟩)) none none none none none) w2 rfl rfl ⟨by decide,by decide,by decide,by decide,by decide⟩ (by decide) ht
 refine xs_cons s0 (xs_cons s1 (xs_cons ((x_for (it_obj (e_var rfl) (l:=K0.map T3.v) rfl)).trans ?_) h))
 exact (forL_go (body:=execs ⟨pg,callF pg (e + 12)⟩ _) (t:=.one 3) (keep:=fun τ=>τ[0]? = some (.list (K0.map T3.v))) (v:=T3.v ⟨0,0,0⟩) (r:=[T3.v ⟨2,5,1⟩]) (ℓ:=lc2 scr 0 none none none none none none) (ℓ1:=lc2 scr 0 (some (T3.v ⟨0,0,0⟩)) none none none none none) rfl p1 rfl).trans ((forL_go (body:=execs ⟨pg,callF pg (e + 12)⟩ _) (t:=.one 3) (keep:=fun τ=>τ[0]? = some (.list (K0.map T3.v))) (v:=T3.v ⟨2,5,1⟩) (r:=[]) (ℓ:=lc2 scr 0 (some (T3.v ⟨0,0,0⟩)) none none none none none) (ℓ1:=lc2 scr 0 (some (T3.v ⟨2,5,1⟩)) none none none none none) rfl p2 rfl).trans rfl)
end
end Mini.Internal
set_option exponentiation.threshold 2000
namespace Mini.Internal
open PySem
variable {ρ ρ' ρ1:List Addr}{σ σ' σ1:H}{s s' s1:Shared}{h h':Heap}{ℓ ℓ':L}
section
variable {pg:Pg}
theorem fm_nat (a:Int) {n:Int} (hn:0 < n):∃k:Nat,a.fmod n=(k:Nat)∧(k:Int) < n:=by
 refine rE (fun k hk=>?_) (Int.eq_ofNat_of_zero_le (Int.fmod_nonneg_of_pos a hn))
 exact ⟨k,hk,hk ▸ Int.fmod_lt_of_pos _ hn⟩
theorem at_k (P:PY pg) (e:Nat) {scr:List Int} (h:ℓ[0]?.join=some (.frz scr)) (k:Nat) {i:Int} (hi:i=k) (σ:H):evalE ⟨pg,callF pg (e + 12)⟩ (Ex.call 16 (Es.cons (Ex.var 0) (Es.cons (Ex.lit (V.int i)) Es.nil))) ℓ σ=some (.ok (.int (nth scr k)),σ) :=
 e_call (es_cons (e_var h) (es_cons e_lit es_nil)) (ev_nth P.f16 (e + 11) scr k hi σ)
theorem q_is (P:PY pg) (e:Nat) {scr:List Int} (h:ℓ[0]?.join=some (.frz scr)) (i:Int) (σ:H):evalE ⟨pg,callF pg (e + 12)⟩ (Ex.cmp (Ex.bin Bop.mod (Ex.bin Bop.fdiv (Ex.call 16 (Es.cons (Ex.var 0) (Es.cons (Ex.lit (V.int 3)) Es.nil))) (Ex.lit (V.int 11))) (Ex.lit (V.int 4))) (Ch.one Cop.eq (Ex.lit (V.int i)))) ℓ σ=some (.ok (.bool (decide (((nth scr 3).fdiv 11).fmod 4=i))),σ) :=
 e_cmp (e_bin (e_bin (at_k P e h 3 rfl σ) e_lit (bin_fdiv (by decide) _)) e_lit (bin_mod (by decide) _)) e_lit rfl
theorem kept_k (P:PY pg) (e:Nat) {scr:List Int} (h:ℓ[0]?.join=some (.frz scr)) (h1:ℓ[1]?.join=some (.obj 0)) (h0:σ[0]? = some (.list (K0.map T3.v))):∃x:T3,evalE ⟨pg,callF pg (e + 12)⟩ (Ex.idx (Ex.var 1) (Ex.bin Bop.mod (Ex.call 16 (Es.cons (Ex.var 0) (Es.cons (Ex.lit (V.int 4)) Es.nil))) (Ex.lit (V.int 2)))) ℓ σ=some (.ok (.tup [.int x.a,.int x.b,.int x.c]),σ):=by
 refine rEA (fun k hk hl=>?_) (fm_nat (nth scr 4) (n:=2) (by decide))
 have hl:k < K0.length:=by show k < 2;exact ln1 [(.zlt (.n .v0) (.k 2))] (.lt .v0 (.k 2)) (.d 111) rfl hl
 refine ⟨K0[k],e_idx (e_var h1) (e_bin (at_k P e h 4 rfl σ) e_lit (bin_mod (by decide) _)) ?_⟩
 rw [hk]
 refine (getIdx_at h0 (by rw [List.length_map];exact hl)).trans ?_
 rw [List.getElem_map];rfl
set_option tactic.hygienic true in
theorem step6 (P:PY pg) (e:Nat) (scr:List Int) (v3:Option V) {lo hi mk:V} (h0:σ[0]? = some (.list (K0.map T3.v))) (tl:Th σ lo) (th:Th σ hi) (tm:Th σ mk):∃lo' hi' mk',exec ⟨pg,callF pg (e + 12)⟩ S60_6 (lc2 scr 0 v3 (some lo) (some hi) (some mk) none none) σ=some (.next,lc2 scr 0 v3 (some lo') (some hi') (some mk') none none,σ)∧Th σ lo'∧Th σ hi'∧Th σ mk':=by
 have c:=q_is P e (scr:=scr) (ℓ:=lc2 scr 0 v3 (some lo) (some hi) (some mk) none none) rfl 0 σ
 by_cases q:((nth scr 3).fdiv 11).fmod 4=0
 ·rw [decide_eq_true q] at c
  refine rE (fun x hx=>?_) (kept_k P e (scr:=scr) (ℓ:=lc2 scr 0 v3 (some lo) (some hi) (some mk) none none) rfl rfl h0)
  exact ⟨_,_,_,x_ift c (xs_one (x_asg3 hx rfl rfl rfl)),.int _,.int _,.int _⟩
 ·rw [decide_eq_false q] at c
  exact ⟨lo,hi,mk,x_iff c xs_nil,tl,th,tm⟩
set_option tactic.hygienic true in
theorem step7 (P:PY pg) (e:Nat) (scr:List Int) (v3:Option V) {lo hi mk:V} (tl:Th σ lo) (th:Th σ hi):∃hi',exec ⟨pg,callF pg (e + 12)⟩ S60_7 (lc2 scr 0 v3 (some lo) (some hi) (some mk) none none) σ=some (.next,lc2 scr 0 v3 (some lo) (some hi') (some mk) none none,σ)∧Th σ hi':=by
 have c:=e_and (q_is P e (scr:=scr) (ℓ:=lc2 scr 0 v3 (some lo) (some hi) (some mk) none none) rfl 1 σ) (e_call (f:=20) (es_cons (a:=Ex.var 4) (e_var rfl) es_nil) (ev_number P.f20 (e + 11) tl))
 cases h:(decide (((nth scr 3).fdiv 11).fmod 4=1) && num lo) with
 | true=>
  rw [h] at c
  exact ⟨lo,x_ift c (xs_one (x_asg (e_var rfl) rfl)),tl⟩
 | false=>
  rw [h] at c
  exact ⟨hi,x_iff c xs_nil,th⟩
theorem slc2 (x y z:V) (σ:H):sliceV σ (.tup [x,y,z]) .none (.int 2) .none=some (.tup [x,y],σ):=by
 show (sliceT [x,y,z] .none (.int 2) .none).map (fun v=>(v,σ))=_
 have:sliceT [x,y,z] .none (.int 2) .none=tup2 [x,y,z]:=by
  show (if (Option.none:Option Int)=.none∧(some 2:Option Int)=some 2∧(Option.none:Option Int)=.none then tup2 [x,y,z] else .none)=_
  exact if_pos ⟨rfl,rfl,rfl⟩
 rw [this];rfl
theorem cat21 (x y z:V) (σ:H):binop .add (.tup [x,y]) (.tup [z]) σ=some (.tup [x,y,z],σ):=by
 show (if Bop.add=Bop.add then tupV σ [x,y] (.tup [z]) else .none)=_
 rw [if_pos rfl]
 show (if [x,y]≠[]∧[z]≠[]∧[x,y].length + [z].length≤lenMax then some (V.tup ([x,y]++[z]),σ) else .none)=_
 exact if_pos ⟨nofun,nofun,Nat.le_of_ble_eq_true rfl⟩
set_option tactic.hygienic true in
theorem step9 (P:PY pg) (e:Nat) (scr:List Int) (v3:Option V) {lo hi mk:V}{c:Nat} (hc:c < 11) (h0:σ[0]? = some (.list (K0.map T3.v))) (tl:Th σ lo) (th:Th σ hi) (tm:Th σ mk):∃lo' hi' mk' c' τ,exec ⟨pg,callF pg (e + 12)⟩ S60_9 (lc2 scr 0 v3 (some lo) (some hi) (some mk) (some (.int (c:Nat))) none) σ=some (.next,lc2 scr 0 v3 (some lo') (some hi') (some mk') (some (.int (c':Nat))) none,σ++τ)∧Th (σ++τ) lo'∧Th (σ++τ) hi'∧Th (σ++τ) mk'∧c' < 11:=by
 have cq:=q_is P e (scr:=scr) (ℓ:=lc2 scr 0 v3 (some lo) (some hi) (some mk) (some (.int (c:Nat))) none) rfl 2 σ
 by_cases q:((nth scr 3).fdiv 11).fmod 4=2
 ·rw [decide_eq_true q] at cq
  refine rE (fun x hx=>?_) (kept_k P e (scr:=scr) (ℓ:=lc2 scr 0 v3 (some lo) (some hi) (some mk) (some (.int (c:Nat))) none) rfl rfl h0)
  refine rEEA (fun v τ hv tv=>?_) (ev_thing P.f19 (e + 11) (5 * nth scr 2) σ)
  refine rEA (fun k hk hl=>?_) (fm_nat (c:Nat) (n:=4) (by decide))
  have a:=x_asg3 (i:=4) (j:=5) (k:=6) (e_bin (e_slc hx oe_no (oe_yes (e_lit (v:=.int 2))) oe_no (slc2 _ _ _ _)) (e_tup (es_cons (e_call (f:=19) (es_cons (e_bin (e_lit (v:=.int 5)) (at_k P e rfl 2 rfl σ) (bin_mul (.inl (by decide)) _)) es_nil) hv) es_nil) rfl) (cat21 _ _ _ _)) rfl rfl rfl
  have b:exec ⟨pg,callF pg (e + 12)⟩ (St.asg (Tg.one 7) (Ex.bin Bop.add (Ex.lit (V.int 7)) (Ex.bin Bop.mod (Ex.var 7) (Ex.lit (V.int 4))))) (lc2 scr 0 v3 (some (.int x.a)) (some (.int x.b)) (some v) (some (.int (c:Nat))) none) (σ++τ)=some (.next,lc2 scr 0 v3 (some (.int x.a)) (some (.int x.b)) (some v) (some (.int ((7 + k:Nat)))) none,σ++τ):=by
   have u:=x_asg (C:=⟨pg,callF pg (e + 12)⟩) (i:=7) (ℓ:=lc2 scr 0 v3 (some (.int x.a)) (some (.int x.b)) (some v) (some (.int (c:Nat))) none) (σ:=σ++τ) (e_bin (e_lit (v:=.int 7)) (e_bin (a:=Ex.var 7) (e_var rfl) (e_lit (v:=.int 4)) (bin_mod (by decide) _)) (bin_add _ _ _)) rfl
   rw [hk,show (7:Int) + (k:Nat)=((7 + k:Nat):Int) from by exact ln1 [] (.zeq (.a (.k 7) (.n .v0)) (.n (.a (.k 7) .v0))) (.s (.d 11) (.d 11)) rfl] at u
   exact u
  exact ⟨.int x.a,.int x.b,v,7 + k,τ,x_ift cq (xs_cons a (xs_one b)),.int _,.int _,tv,by exact ln1 [(.zlt (.n .v0) (.k 4))] (.lt (.a (.k 7) .v0) (.k 11)) (.d 111) rfl hl⟩
 ·rw [decide_eq_false q] at cq
  refine ⟨lo,hi,mk,c,[],?_,?_⟩
  ·rw [List.append_nil];exact x_iff cq xs_nil
  ·rw [List.append_nil];exact ⟨tl,th,tm,hc⟩
set_option tactic.hygienic true in
theorem things (P:PY pg) (e:Nat) (scr:List Int) (v3:Option V) (h0:σ[0]? = some (.list (K0.map T3.v))):∃lo hi mk c τ,c < 11∧Th (σ++τ) lo∧Th (σ++τ) hi∧Th (σ++τ) mk∧∀(rest:Ss) (r:Y),execs ⟨pg,callF pg (e + 12)⟩ rest (lc2 scr 0 v3 (some lo) (some hi) (some mk) (some (.int (c:Nat))) none) (σ++τ)=r→execs ⟨pg,callF pg (e + 12)⟩ (.cons S60_3 <| .cons S60_4 <| .cons S60_5 <| .cons S60_6 <| .cons S60_7 <| .cons S60_8 <| .cons S60_9 <| rest) (lc2 scr 0 v3 none none none none none) σ=r:=by
 refine rEEA (fun v1 τ1 q1 t1=>?_) (ev_thing P.f19 (e + 11) (nth scr 0) σ)
 refine rEEA (fun v2 τ2 q2 t2=>?_) (ev_thing P.f19 (e + 11) (nth scr 1) (σ++τ1))
 refine rEEA (fun v4 τ3 q3 t3=>?_) (ev_thing P.f19 (e + 11) (nth scr 2) (σ++τ1++τ2))
 have g0:(σ++τ1++τ2++τ3)[0]? = some (.list (K0.map T3.v)):=get_app (get_app (get_app h0))
 refine rEEEAAA (fun l6 h6 m6 q6 a6 b6 c6=>?_) (step6 P e scr v3 g0 t1.app.app t2.app t3)
 refine rEA (fun h7 q7 b7=>?_) (step7 P e scr v3 (mk:=m6) a6 b6)
 refine rEA (fun k hk hl=>?_) (fm_nat (nth scr 3) (n:=11) (by decide))
 refine rEEEEEAAAA (fun lo hi mk c τ q9 u1 u2 u3 u4=>?_) (step9 P e scr v3 (c:=k) (by exact ln1 [(.zlt (.n .v0) (.k 11))] (.lt .v0 (.k 11)) (.d 111) rfl hl) g0 a6 b7 c6)
 have q8:exec ⟨pg,callF pg (e + 12)⟩ S60_8 (lc2 scr 0 v3 (some l6) (some h7) (some m6) none none) (σ++τ1++τ2++τ3)=some (.next,lc2 scr 0 v3 (some l6) (some h7) (some m6) (some (.int (k:Nat))) none,σ++τ1++τ2++τ3):=by
  have u:=x_asg (C:=⟨pg,callF pg (e + 12)⟩) (i:=7) (ℓ:=lc2 scr 0 v3 (some l6) (some h7) (some m6) none none) (σ:=σ++τ1++τ2++τ3) (e_bin (at_k P e rfl 3 rfl _) (e_lit (v:=.int 11)) (bin_mod (by decide) _)) rfl
  rw [hk] at u
  exact u
 have ea:σ++τ1++τ2++τ3++τ=σ++(τ1++(τ2++(τ3++τ))):=by rw [List.append_assoc,List.append_assoc,List.append_assoc]
 rw [ea] at u1 u2 u3 q9
 refine ⟨lo,hi,mk,c,_,u4,u1,u2,u3,fun rest r h=>?_⟩
 exact xs_cons (x_asg (e_call (es_cons (at_k P e rfl 0 rfl _) es_nil) q1) rfl) (xs_cons (x_asg (e_call (es_cons (at_k P e rfl 1 rfl _) es_nil) q2) rfl) (xs_cons (x_asg (e_call (es_cons (at_k P e rfl 2 rfl _) es_nil) q3) rfl) (xs_cons q6 (xs_cons q7 (xs_cons q8 (xs_cons q9 h))))))
end
end Mini.Internal
set_option exponentiation.threshold 2000
namespace Mini.Internal
open PySem
variable {ρ ρ' ρ1:List Addr}{σ σ' σ1:H}{s s' s1:Shared}{h h':Heap}{ℓ ℓ':L}
theorem sameW {W:Str} (h:W=wordX 11∨W=wordX 12∨W=wordX 13∨W=wDone) (σ:H):cmpop .ne (.str W) (.str W) σ=some false:=by
 rcases h with rfl | rfl | rfl | rfl <;> exact neStr (b:=true) (by decide +kernel) (by decide +kernel) (by decide +kernel) σ
theorem notD {W:Str} (h:W=wordX 11∨W=wordX 12∨W=wordX 13) (σ:H):cmpop .eq (.str W) (.str { cps:=#[100,111,110,101] }) σ=some false:=by
 rcases h with rfl | rfl | rfl <;> exact eqStr (by decide +kernel) (by decide +kernel) (by decide +kernel) σ
theorem isD (σ:H):cmpop .eq (.str wDone) (.str { cps:=#[100,111,110,101] }) σ=some true:=eqStr (by decide +kernel) (by decide +kernel) (by decide +kernel) σ
section
variable {pg:Pg}
theorem After.W {w n:Nat}{t:Tr}{c:Nat}{lo hi mk:V}{W:Str} (h:After w n σ t c lo hi mk W σ'):W=wordX 11∨W=wordX 12∨W=wordX 13∨W=wDone:=by
 obtain ⟨_,t',m',_,_,⟨_,hW,_⟩ | ⟨_,_,hW,_⟩ | ⟨x,_,_,_,_,⟨_,_,hW,_⟩ | ⟨_,_,hW,_⟩ | ⟨_,_,hW,_⟩ | ⟨_,_,hW,_⟩⟩⟩:=h
 ·exact .inl hW
 ·exact .inr (.inr (.inr hW))
 ·exact .inr (.inl hW)
 ·exact .inr (.inr (.inr hW))
 ·exact .inr (.inr (.inl hW))
 ·exact .inr (.inr (.inr hW))
set_option tactic.hygienic true in
theorem due_ok (P : PY pg) (e : Nat) (scr : List Int) (v3 : Option V) {t : Tr} {c : Nat} {lo hi mk : V} {W : Str} (h0 : σ[0]? = some (.list (K0.map T3.v))) (ht : t.tl = K0) (tl : Th σ lo) (th : Th σ hi) (tm : Th σ mk) (hA : After 2 1 σ t c lo hi mk W σ') :
  execs ⟨pg,callF pg (e + 12)⟩ (.cons S60_10 <| .cons S60_11 <| .nil) (lc2 scr 0 v3 (some lo) (some hi) (some mk) (some (.int (c:Nat))) none) σ=some (.next,lc2 scr 0 v3 (some lo) (some hi) (some mk) (some (.int (c:Nat))) (some (.str W)),σ):=by
 refine xs_cons (ℓ1:=lc2 scr 0 v3 (some lo) (some hi) (some mk) (some (.int (c:Nat))) (some (.str wDone))) (x_asg e_lit rfl) (xs_one ?_)
 have g:evalE ⟨pg,callF pg (e + 12)⟩ (Ex.call 21 (Es.cons (Ex.var 7) (Es.cons (Ex.var 4) (Es.cons (Ex.var 5) (Es.cons (Ex.var 6) Es.nil))))) (lc2 scr 0 v3 (some lo) (some hi) (some mk) (some (.int (c:Nat))) (some (.str wDone))) σ=some (.ok (.bool (good (c:Nat) lo hi mk)),σ) :=
  e_call (es_cons (e_var rfl) (es_cons (e_var rfl) (es_cons (e_var rfl) (es_cons (e_var rfl) es_nil)))) (ev_good P.f20 P.f21 (e + 10) (c:Nat) tl th tm)
 have ck:∀k:Int,evalE ⟨pg,callF pg (e + 12)⟩ (Ex.cmp (Ex.var 7) (Ch.one Cop.eq (Ex.lit (V.int k)))) (lc2 scr 0 v3 (some lo) (some hi) (some mk) (some (.int (c:Nat))) (some (.str wDone))) σ=some (.ok (.bool (decide ((c:Int)=k))),σ):=fun k=>e_cmp (e_var rfl) e_lit rfl
 have no:∀k:Int,(c:Int)≠k→∀{b:Ex},evalE ⟨pg,callF pg (e + 12)⟩ (.and (Ex.cmp (Ex.var 7) (Ch.one Cop.eq (Ex.lit (V.int k)))) b) (lc2 scr 0 v3 (some lo) (some hi) (some mk) (some (.int (c:Nat))) (some (.str wDone))) σ=some (.ok (.bool false),σ):=fun k hk b=>e_andf (by have:=ck k;rw [decide_eq_false hk] at this;exact this)
 have ye:∀k:Int,(c:Int)=k→∀{b:Ex}{r:X V},evalE ⟨pg,callF pg (e + 12)⟩ b (lc2 scr 0 v3 (some lo) (some hi) (some mk) (some (.int (c:Nat))) (some (.str wDone))) σ=r→evalE ⟨pg,callF pg (e + 12)⟩ (.and (Ex.cmp (Ex.var 7) (Ch.one Cop.eq (Ex.lit (V.int k)))) b) (lc2 scr 0 v3 (some lo) (some hi) (some mk) (some (.int (c:Nat))) (some (.str wDone))) σ=r:=fun k hk b r hb=>e_andt (by have:=ck k;rw [decide_eq_true hk] at this;exact this) hb
 obtain ⟨_,t',m',_,_,⟨hg,rfl,_⟩ | ⟨hg,hc,rfl,_⟩ | ⟨x,rfl,rfl,rfl,hg,hx⟩⟩:=hA
 ·rw [hg] at g
  exact x_ift (notF g) (xs_one (x_asg e_lit rfl))
 ·rw [hg] at g
  exact x_iff (notT g) (xs_one (x_iff (no 9 (by exact ln1 [(.lt .v0 (.k 9))] (.no (.zeq (.n .v0) (.k 9))) (.d 1011) rfl hc)) (xs_one (x_iff (no 10 (by exact ln1 [(.lt .v0 (.k 9))] (.no (.zeq (.n .v0) (.k 10))) (.d 1011) rfl hc)) xs_nil))))
 ·rw [hg] at g
  rw [ht] at hx
  have tp:evalE ⟨pg,callF pg (e + 12)⟩ (Ex.tup (Es.cons (Ex.var 4) (Es.cons (Ex.var 5) (Es.cons (Ex.var 6) Es.nil)))) (lc2 scr 0 v3 (some (.int x.a)) (some (.int x.b)) (some (.int x.c)) (some (.int (c:Nat))) (some (.str wDone))) σ=some (.ok x.v,σ):=e_tup (es_cons (e_var rfl) (es_cons (e_var rfl) (es_cons (e_var rfl) es_nil))) rfl
  have im:=in_t3 h0 x
  have nm:=nin_t3 h0 x
  rcases hx with ⟨hc,hm,rfl,_⟩ | ⟨hc,hm,rfl,_⟩ | ⟨hc,hm,rfl,_⟩ | ⟨hc,hm,rfl,_⟩
  ·rw [decide_eq_true hm] at im
   exact x_iff (notT g) (xs_one (x_ift (ye 9 (by exact ln1 [(.eq .v0 (.k 9))] (.zeq (.n .v0) (.k 9)) (.s (.d 1101) (.d 111)) rfl hc) (e_cmp tp (e_var rfl) im)) (xs_one (x_asg e_lit rfl))))
  ·rw [decide_eq_false hm] at im
   exact x_iff (notT g) (xs_one (x_iff (ye 9 (by exact ln1 [(.eq .v0 (.k 9))] (.zeq (.n .v0) (.k 9)) (.s (.d 1101) (.d 111)) rfl hc) (e_cmp tp (e_var rfl) im)) (xs_one (x_iff (no 10 (by exact ln1 [(.eq .v0 (.k 9))] (.no (.zeq (.n .v0) (.k 10))) (.d 1011) rfl hc)) xs_nil))))
  ·rw [decide_eq_false hm] at nm
   exact x_iff (notT g) (xs_one (x_iff (no 9 (by exact ln1 [(.eq .v0 (.k 10))] (.no (.zeq (.n .v0) (.k 9))) (.d 11001) rfl hc)) (xs_one (x_ift (ye 10 (by exact ln1 [(.eq .v0 (.k 10))] (.zeq (.n .v0) (.k 10)) (.s (.d 1101) (.d 111)) rfl hc) (e_cmp tp (e_var rfl) nm)) (xs_one (x_asg e_lit rfl))))))
  ·rw [decide_eq_true hm] at nm
   exact x_iff (notT g) (xs_one (x_iff (no 9 (by exact ln1 [(.eq .v0 (.k 10))] (.no (.zeq (.n .v0) (.k 9))) (.d 11001) rfl hc)) (xs_one (x_iff (ye 10 (by exact ln1 [(.eq .v0 (.k 10))] (.zeq (.n .v0) (.k 10)) (.s (.d 1101) (.d 111)) rfl hc) (e_cmp tp (e_var rfl) nm)) xs_nil))))
theorem last (P:PY pg) (e:Nat) {scr:List Int}{rk:Nat}{v3 v4 v5 v6 v7 v8:Option V}{t:Tr}{m:Int} (hw:Wd 2 1 σ t m) (hz:t.sz≤9) (hr:σ[rk]? = some (.list (t.tl.map T3.v))):∃ℓ' σ',execs ⟨pg,callF pg (e + 12)⟩ (.cons S60_15 .nil) (lc2 scr rk v3 v4 v5 v6 v7 v8) σ=some (.ret (.bool true),ℓ',σ') :=
 ⟨_,_,xs_ret (x_ret (e_cmp (e_ucall (e_var rfl) ((hw.mt 4).trans P.m4) es_nil (ev_listed P.f14 P.f84 P.f74 P.m14 (e + 9) hw (by exact ln2 [(.le .v0 (.k 9))] (.le .v0 (.a .v1 (.k 9))) (.d 111) rfl hz) (by exact ln1 [(.le .v0 (.k 9))] (.lt .v0 (.k 1000)) (.d 111) rfl hz))) (e_var rfl) (eq_lists (gl σ _) (get_app hr))))⟩
theorem rest2 (P : PY pg) (e : Nat) (scr : List Int) (v3 : Option V) {t : Tr} {c : Nat} {lo hi mk : V} {W : Str} (h0 : σ[0]? = some (.list (K0.map T3.v))) (ht : t.tl = K0) (hA : After 2 1 σ t c lo hi mk W σ') :
  ∃ℓ' σ2,execs ⟨pg,callF pg (e + 12)⟩ (.cons S60_13 <| .cons S60_14 <| .cons S60_15 <| .nil) (lc2 scr 0 v3 (some lo) (some hi) (some mk) (some (.int (c:Nat))) (some (.str W))) σ'=some (.ret (.bool true),ℓ',σ2):=by
 have hK:Srt3 K0:=by unfold Srt3 K0;decide
 refine byC fun hX=>?_;obtain ⟨hk,t',m',hw,hs,hYc⟩:=hA;refine hX ?_;clear hX
 have g0:=hk 0 _ h0
 have sm:t'=t→t'.sz≤9∧σ'[0]? = some (.list (t'.tl.map T3.v)):=fun h=>by
  subst h
  refine ⟨?_,ht ▸ g0⟩
  rw [← Tr.sz_tl,ht];decide
 have nd:W=wordX 11∨W=wordX 12∨W=wordX 13→t'=t→∃ℓ' σ2,execs ⟨pg,callF pg (e + 12)⟩ (.cons S60_13 <| .cons S60_14 <| .cons S60_15 <| .nil) (lc2 scr 0 v3 (some lo) (some hi) (some mk) (some (.int (c:Nat))) (some (.str W))) σ'=some (.ret (.bool true),ℓ',σ2):=fun hW h=>by
  refine rEE (fun ℓ' σ2 q=>?_) (last P e (scr:=scr) (v3:=v3) (v4:=some lo) (v5:=some hi) (v6:=some mk) (v7:=some (.int (c:Nat))) (v8:=some (.str W)) hw (sm h).1 (sm h).2)
  exact ⟨ℓ',σ2,xs_cons (x_iff (e_andf (e_cmp (e_var rfl) e_lit (notD hW _))) xs_nil) (xs_cons (x_iff (e_andf (e_cmp (e_var rfl) e_lit (notD hW _))) xs_nil) q)⟩
 have ck:∀(k:Int) (rk:Nat) (τ:H),evalE ⟨pg,callF pg (e + 12)⟩ (.and (Ex.cmp (Ex.var 8) (Ch.one Cop.eq (Ex.lit (V.str { cps:=#[100,111,110,101] })))) (Ex.cmp (Ex.var 7) (Ch.one Cop.eq (Ex.lit (V.int k))))) (lc2 scr rk v3 (some lo) (some hi) (some mk) (some (.int (c:Nat))) (some (.str wDone))) τ=some (.ok (.bool (decide ((c:Int)=k))),τ):=fun k rk τ=>e_andt (e_cmp (e_var rfl) e_lit (isD _)) (e_cmp (e_var rfl) e_lit rfl)
 rcases hYc with ⟨hg,hW,h⟩ | ⟨hg,hc,rfl,h⟩ | ⟨x,rfl,rfl,rfl,hg,hx⟩
 ·exact nd (.inl hW) h
 ·refine rEE (fun ℓ' σ2 q=>?_) (last P e (scr:=scr) (v3:=v3) (v4:=some lo) (v5:=some hi) (v6:=some mk) (v7:=some (.int (c:Nat))) (v8:=some (.str wDone)) hw (sm h).1 (sm h).2)
  have c9:=ck 9 0 σ'
  have c10:=ck 10 0 σ'
  rw [decide_eq_false (by lia)] at c9 c10
  exact ⟨ℓ',σ2,xs_cons (x_iff c9 xs_nil) (xs_cons (x_iff c10 xs_nil) q)⟩
 ·rw [ht] at hx
  have tp:∀τ,evalE ⟨pg,callF pg (e + 12)⟩ (Ex.tup (Es.cons (Ex.var 4) (Es.cons (Ex.var 5) (Es.cons (Ex.var 6) Es.nil)))) (lc2 scr 0 v3 (some (.int x.a)) (some (.int x.b)) (some (.int x.c)) (some (.int (c:Nat))) (some (.str wDone))) τ=some (.ok x.v,τ):=fun τ=>e_tup (es_cons (e_var rfl) (es_cons (e_var rfl) (es_cons (e_var rfl) es_nil))) rfl
  rcases hx with ⟨hc,hm,hW,h⟩ | ⟨hc,hm,rfl,h⟩ | ⟨hc,hm,hW,h⟩ | ⟨hc,hm,rfl,h⟩
  ·exact nd (.inr (.inl hW)) h
  ·have c9:=ck 9 0 σ'
   rw [decide_eq_true (by exact ln1 [(.eq .v0 (.k 9))] (.zeq (.n .v0) (.k 9)) (.s (.d 1101) (.d 111)) rfl hc)] at c9
   have hnd:(K0++[x]).Nodup:=by
    rw [List.nodup_append]
    exact ⟨hK.nodup,by simp,fun a ha b hb e=>by simp at hb;subst hb;subst e;exact hm ha⟩
   have et:(K0++[x]).mergeSort T3.le=t'.tl:=Srt3.eq (srt_merge3 hnd) hs fun y=>by
    rw [(List.mergeSort_perm _ _).mem_iff,h y,List.mem_append,List.mem_singleton];exact Or.comm
   have hz:t'.sz≤9:=by rw [← Tr.sz_tl,← et,List.length_mergeSort];exact Nat.le_of_ble_eq_true rfl
   have cc:=cat_at (σ:=σ'++[O.list [x.v]]) (get_app g0) (gl σ' _) (Nat.le_of_ble_eq_true rfl)
   rw [snoc_v] at cc
   have hb:bltV .sorted [.obj (σ'++[O.list [x.v]]).length] (σ'++[O.list [x.v]]++[O.list ((K0++[x]).map T3.v)])=some (.obj (σ'++[O.list [x.v]]++[O.list ((K0++[x]).map T3.v)]).length,σ'++[O.list [x.v]]++[O.list ((K0++[x]).map T3.v)]++[O.list (t'.tl.map T3.v)]):=by
    show ((listOf _ (.obj _)).bind sortV).bind (mkList _)=_
    rw [listOf_get (gl _ _)]
    show (sortV ((K0++[x]).map T3.v)).bind (mkList _)=_
    rw [sortV_t3 _ (asc_srt x hK),et]
    exact mkList_ok (by rw [List.length_map,Tr.sz_tl];exact Nat.le_trans hz (by decide)) _
   have s13:=x_asg (i:=1) (e_blt (es_cons (e_bin (a:=Ex.var 1) (e_var rfl) (e_lst (es_cons (tp σ') es_nil) rfl) cc) es_nil) hb) rfl
   have c10:=ck 10 (σ'++[O.list [x.v]]++[O.list ((K0++[x]).map T3.v)]).length (σ'++[O.list [x.v]]++[O.list ((K0++[x]).map T3.v)]++[O.list (t'.tl.map T3.v)])
   rw [decide_eq_false (by exact ln1 [(.eq .v0 (.k 9))] (.no (.zeq (.n .v0) (.k 10))) (.d 1011) rfl hc)] at c10
   refine rEE (fun ℓ' σ2 q=>?_) (last P e (scr:=scr) (v3:=v3) (v4:=some (.int x.a)) (v5:=some (.int x.b)) (v6:=some (.int x.c)) (v7:=some (.int (c:Nat))) (v8:=some (.str wDone)) (hw.app (τ:=[O.list [x.v]])).app.app hz (gl (σ'++[O.list [x.v]]++[O.list ((K0++[x]).map T3.v)]) (O.list (t'.tl.map T3.v))))
   exact ⟨ℓ',σ2,xs_cons (x_ift c9 (xs_one s13)) (xs_cons (x_iff c10 xs_nil) q)⟩
  ·exact nd (.inr (.inr hW)) h
  ·have c9:=ck 9 0 σ'
   have c10:=ck 10 0 σ'
   rw [decide_eq_false (by exact ln1 [(.eq .v0 (.k 10))] (.no (.zeq (.n .v0) (.k 9))) (.d 11001) rfl hc)] at c9
   rw [decide_eq_true (by exact ln1 [(.eq .v0 (.k 10))] (.zeq (.n .v0) (.k 10)) (.s (.d 1101) (.d 111)) rfl hc)] at c10
   have cm:=comp_map (C:=⟨pg,callF pg (e + 12)⟩) (elt:=Ex.var 10) (tg:=10) (it:=It.ex (Ex.var 1)) (ifs:=Es.cons (Ex.cmp (Ex.var 10) (Ch.one Cop.ne (Ex.tup (Es.cons (Ex.var 4) (Es.cons (Ex.var 5) (Es.cons (Ex.var 6) Es.nil)))))) Es.nil) (ℓ:=lc2 scr 0 v3 (some (.int x.a)) (some (.int x.b)) (some (.int x.c)) (some (.int (c:Nat))) (some (.str wDone))) (σ:=σ') (xs:=K0) T3.v (fun y=>if (!decide (y=x))=true then some y.v else none) (it_obj (e_var rfl) g0) g0 (Nat.le_of_ble_eq_true rfl) (by decide) fun y hy=>by
    have hc:∀b,(!decide (y=x))=b→∀ℓ:L,ℓ[10]?.join=some y.v→ℓ[4]?.join=some (.int x.a)→ℓ[5]?.join=some (.int x.b)→ℓ[6]?.join=some (.int x.c)→evalE ⟨pg,callF pg (e + 12)⟩ (Ex.cmp (Ex.var 10) (Ch.one Cop.ne (Ex.tup (Es.cons (Ex.var 4) (Es.cons (Ex.var 5) (Es.cons (Ex.var 6) Es.nil)))))) ℓ σ'=some (.ok (.bool b),σ'):=fun b hb ℓ h1 h2 h3 h4=>hb ▸ e_cmp (e_var h1) (e_tup (es_cons (e_var h2) (es_cons (e_var h3) (es_cons (e_var h4) es_nil))) rfl) (neT3 y x σ')
    cases hq:(!decide (y=x)) with
    | true=>exact cb_t' (if_one (p:=true) (hc true hq _ rfl rfl rfl rfl)) (e_var rfl)
    | false=>exact cb_f (if_one (p:=false) (hc false hq _ rfl rfl rfl rfl))
   rw [filterMap_if] at cm
   have et:K0.filter (fun y=>!decide (y=x))=t'.tl:=Srt3.eq (List.Pairwise.filter _ hK) hs fun y=>by
    rw [List.mem_filter,h y]
    constructor
    ·intro ⟨a,b⟩
     exact ⟨fun e=>by subst e;simp at b,a⟩
    ·intro ⟨a,b⟩
     exact ⟨b,by simp [a]⟩
   rw [et] at cm
   have hz:t'.sz≤9:=by
    rw [← Tr.sz_tl,← et]
    exact Nat.le_trans (List.length_filter_le _ _) (by decide)
   refine rEE (fun ℓ' σ2 q=>?_) (last P e (scr:=scr) (v3:=v3) (v4:=some (.int x.a)) (v5:=some (.int x.b)) (v6:=some (.int x.c)) (v7:=some (.int (c:Nat))) (v8:=some (.str wDone)) (hw.app (τ:=[O.list (t'.tl.map T3.v)])) hz (gl σ' _))
   exact ⟨ℓ',σ2,xs_cons (x_iff c9 xs_nil) (xs_cons (x_ift c10 (xs_one (x_asg cm rfl))) q)⟩
set_option tactic.hygienic true in
theorem law02 (P:PY pg) (e:Nat) (scr:List Int):callF pg (e + 13) 60 [.frz scr] []=some (.ok (.bool true),[]):=by
 refine rEEEAAA (fun σ t m hw h0 ht hh=>?_) (head2 P e scr)
 refine rEEEEEAAAA (fun lo hi mk c τ hc t1 t2 t3 hth=>?_) (things P e scr (some (T3.v ⟨2,5,1⟩)) h0)
 have g0:(σ++τ)[0]? = some (.list (K0.map T3.v)):=get_app h0
 have hz:t.sz≤2:=by rw [← Tr.sz_tl,ht];decide
 have hs:Srt3 t.tl:=by rw [ht];unfold Srt3 K0;decide
 have hab:∀x∈t.tl,x.a≤x.b:=by rw [ht];decide
 refine rEEA (fun W σ' hword hA=>?_) (ev_word P (e + 1) hc (hw.app (τ:=τ)) hz hs hab t1 t2 t3)
 refine rEE (fun ℓ' σ2 hr=>?_) (rest2 P e scr (some (T3.v ⟨2,5,1⟩)) g0 ht hA)
 have s12:exec ⟨pg,callF pg (e + 12)⟩ S60_12 (lc2 scr 0 (some (T3.v ⟨2,5,1⟩)) (some lo) (some hi) (some mk) (some (.int (c:Nat))) (some (.str W))) (σ++τ)=some (.next,lc2 scr 0 (some (T3.v ⟨2,5,1⟩)) (some lo) (some hi) (some mk) (some (.int (c:Nat))) (some (.str W)),σ') :=
  x_iff (e_cmp (e_call (es_cons (e_var rfl) (es_cons (e_var rfl) (es_cons (e_var rfl) (es_cons (e_var rfl) (es_cons (e_var rfl) es_nil))))) hword) (e_var rfl) (sameW hA.W _)) xs_nil
 have hd:=due_ok P e scr (some (T3.v ⟨2,5,1⟩)) g0 ht t1 t2 t3 hA
 have hd':execs ⟨pg,callF pg (e + 12)⟩ (.cons S60_10 <| .cons S60_11 <| .cons S60_12 <| .cons S60_13 <| .cons S60_14 <| .cons S60_15 <| .nil) (lc2 scr 0 (some (T3.v ⟨2,5,1⟩)) (some lo) (some hi) (some mk) (some (.int (c:Nat))) none) (σ++τ)=some (.ret (.bool true),ℓ',σ2):=by
  have hsq:∀{a b:St}{r:Ss}{ℓ ℓ1:L}{s s1:H}{y:Y}{C:Cl},execs C (.cons a (.cons b .nil)) ℓ s=some (.next,ℓ1,s1)→execs C r ℓ1 s1=y→execs C (.cons a (.cons b r)) ℓ s=y:=fun {a b r ℓ ℓ1 s s1 y C} h1 h2=>by
   have h1:seqY (exec C a ℓ s) (fun ℓ s=>seqY (exec C b ℓ s) fun ℓ s=>some (.next,ℓ,s))=some (.next,ℓ1,s1):=h1
   show seqY (exec C a ℓ s) (fun ℓ s=>seqY (exec C b ℓ s) fun ℓ s=>execs C r ℓ s)=y
   revert h1
   rcases exec C a ℓ s with _ | ⟨_ | _ | _ | _,l2,s2⟩ <;> intro h1 <;> try (simp [seqY] at h1;done)
   have h1:seqY (exec C b l2 s2) (fun ℓ s=>some (.next,ℓ,s))=some (.next,ℓ1,s1):=h1
   show seqY (exec C b l2 s2) (fun ℓ s=>execs C r ℓ s)=y
   revert h1
   rcases exec C b l2 s2 with _ | ⟨_ | _ | _ | _,l3,s3⟩ <;> intro h1 <;> try (simp [seqY] at h1;done)
   have h1:some (Fl.next,l3,s3)=some (.next,ℓ1,s1):=h1
   refine rAA (fun u0_ hO1 hO2=>?_) (pJ3 h1);refine eqS hO1 ?_;refine eqS hO2 ?_
   exact h2
  exact hsq hd (xs_cons s12 hr)
 exact ev_law P.f60 rfl (hh _ _ (hth _ _ hd')) rfl
end
end Mini.Internal
open PySem PySem.W PyProof.Rows
set_option Elab.async false
namespace Mini.Internal
noncomputable def md2:Nat→Mode:=fun n=>if n=14∨n=15∨n=19∨n=22∨n=24∨n=70∨n=71∨n=72∨n=77 then .raw else if n=4∨n=74∨n=76∨n=79∨n=84 then .fresh else .pure
noncomputable def XP2 (mg:Str→Option Value) (h:Heap):Prop:=XL vw [] mg h∧Sub mg h
set_option maxRecDepth 100000 in
theorem woods_ne:plainsOf vw (looseW vw [])≠[]:=List.ne_nil_of_length_pos (by decide +kernel)
noncomputable def wood:ClsRec:=(plainsOf vw (looseW vw [])).head woods_ne
theorem wood_name:wood.name=sWood:=by kernel_rfl
noncomputable abbrev pg2:Pg:=pgOf bltNames md2 (recsOf vw) wood.withCmp.meths
set_option maxRecDepth 100000 in
theorem pg_ok:PY pg2:=⟨⟨by kernel_rfl,by kernel_rfl,by kernel_rfl,by kernel_rfl,by kernel_rfl,by kernel_rfl,by kernel_rfl,by kernel_rfl,by kernel_rfl,by kernel_rfl,by kernel_rfl,by kernel_rfl,by kernel_rfl,by kernel_rfl,by kernel_rfl⟩,by kernel_rfl,by kernel_rfl,by kernel_rfl,by kernel_rfl,by kernel_rfl,by kernel_rfl,by kernel_rfl,by kernel_rfl,by kernel_rfl,by kernel_rfl,by kernel_rfl,by kernel_rfl,by kernel_rfl,by kernel_rfl,by kernel_rfl,by kernel_rfl,by kernel_rfl,by kernel_rfl,by kernel_rfl,by kernel_rfl,by kernel_rfl,by kernel_rfl,by kernel_rfl,by kernel_rfl,by kernel_rfl,by kernel_rfl,by kernel_rfl,by kernel_rfl,by kernel_rfl⟩
end Mini.Internal
set_option tactic.hygienic true in
set_option maxRecDepth 100000 in
set_option maxHeartbeats 8000000 in
theorem PySem.Challenge.cw_uf060001_02_holds : PySem.Challenge.rw_uf060001_02.Holds := by
 w_on
 refine holds_law (by decide +kernel) fun said=>?_
 refine holds_open (q:=Mini.Internal.vw) (loose:=[]) (Xt:=Mini.Internal.Xt2) (XP:=Mini.Internal.XP2) (Yf:=Hook.obs Hook.none) (Ya:=Hook.val Hook.none) (YP:=Hook.says Hook.none) (N:=4000) Mini.Internal.left_ok (Hook.of Hook.none) (Hook.keeps Hook.none) (fun s e=>⟨xl_of s (Bool.and_eq_true_iff.mp (Bool.and_eq_true_iff.mp e).1).1,Mini.Internal.sub_of (Bool.and_eq_true_iff.mp e).2⟩) (fun mg h h' x k=>⟨XL.keeps mg h h' x.1 k,x.2.keeps k⟩) (by rfl) (by rfl) (by rfl) (fun s e=>recFacts_of (Bool.and_eq_true_iff.mp (Bool.and_eq_true_iff.mp e).1).2) (by rfl) said (by decide +kernel) ⟨rfl,rfl,rfl,rfl,rfl,by decide +kernel⟩ ?hw ?hc
 case hw=>w_witness2
 intro w s₀ s₁ mg mb G Y fa o pm cd doc dV kV ho hd hcd hD hmg hg args vals as hpre hlay hrd hwl hlo
 have hsub:=G.X.2
 refine Ground.open G ?_
 intro T B D TE TW
 wrow_args hpre hlay hrd hwl hlo
 rename_i scr hs hlay0 hLay hr1 hl2 wa4 wa3 ax vs wa0 hL ra w1 r0 hI hr hc1 hc0
 clear hd hcd hD ho Y
 obtain ⟨C,N,mN,hC,PA⟩:=TE Mini.Internal.wood (List.head_mem _)
 rw [Mini.Internal.wood_name] at hC
 obtain ⟨vs',hx,hv⟩:=Mini.Internal.well_ints (h':=s₁.heap) w1
 have hlen:scr.length≤63:=by omega
 refine Mini.Internal.law_end (σ' := []) (bl := Mini.Internal.bltNames) (md := Mini.Internal.md2) (d := 340) (n := 60) (x := Str.ofString "law") (fun u_ v_ h => h) T PA hC hsub _ w ?q1 ?q2 ?q6 ?q7 ?q8 Mini.Internal.rm_caller rfl (fun u_ v_ w_ x_ => Mini.Internal.sort_ok) rfl hx hv ?q3 (by decide) rfl hmg ?q4 ?q5
 case q1=>decide +kernel
 case q2=>decide +kernel
 case q6=>decide +kernel
 case q7=>decide +kernel
 case q8=>decide +kernel
 case q3=>exact Nat.le_trans hlen (by decide)
 case q4=>exact Mini.Internal.law02 Mini.Internal.pg_ok 327 scr
 case q5=>
  intro s' k1 k2 k3
  exact GoodW.toG ⟨.inl ⟨_,.bool true,[],rfl,fun u_=>rfl,.bool _,by wrow_post,fun u_=>⟨List.nodup_nil,nofun⟩⟩,k1,k2,k3.trans hg⟩
