import PyProof.Rows.All
import Wide.All
import OpenK.AllK
import Wide.FinOn
import PyProof.P3Statements
import PyProof.P3Eq
import PyProof.CompFree
import PyProof.Cells
import PyProof.Rows.PlainNoArg
import PyProof.Rows.AttrNode
import OpenK.KRaise
import PyProof.ForAny
import PyProof.Rows.CatchBare
import PyProof.Rows.Top
import KE.IntBitsLaws
import PyProof.Rows.SortRuns
import PyProof.Rows.SortShell
import PyProof.Rows.SortShellK
import KE.KSortTup
import PySem.Challenge.RW_uf060001_10
set_option tactic.hygienic false
set_option linter.all false
set_option genInjectivity false
set_option genCtorIdx false
set_option bootstrap.genMatcherCode false
set_option genSizeOf false
set_option genSizeOfSpec false
section
open PySem PySem.W PyProof.Rows
namespace Mini.Internal
noncomputable def Ztt:Stmt→Bool
 | .Assign ..=>false
 | _=>true
noncomputable def vw:Program:={ PySem.Challenge.pw_uf060001_10 with main:={ PySem.Challenge.pw_uf060001_10.main with body:=PySem.Challenge.pw_uf060001_10.main.body.filter Ztt } }
noncomputable def subs : List Str := [Str.ofString "BadStretch", Str.ofString "Twice", Str.ofString "Missing"]
noncomputable def Zld : Str := Str.ofString "SpanError"
noncomputable def Zn8 : Str := "__class__"
noncomputable def bmV : List Value := [.type "ValueError", .type "Exception", .type "BaseException", .type "object"]
noncomputable def Zqf (s:Shared):Bool:=subs.all fun x=>match s.heap.clsAt mainGlobals x,s.heap.clsAt mainGlobals Zld with
 | some y,some z=>y.2.2.mro == .ref y.1::.ref z.1::bmV&&(s.heap.isNs y.2.2.ns&&(s.heap.nsMap y.2.2.ns Zn8).isNone)&&(s.heap.isNs z.2.2.ns&&(s.heap.nsMap z.2.2.ns Zn8).isNone) && !(y.1 == z.1)&&subs.all (fun w=>w == x || !(s.heap.nsMap mainGlobals w == some (.ref y.1)))
 | _,_=>false
noncomputable def Xt10 (s:Shared):Bool:=xlAt vw [] s&&recOk [] s&&Zqf s
set_option Elab.async false in
set_option maxRecDepth 100000 in
theorem left_ok:LeftO PySem.Challenge.pw_uf060001_10 vw [] Xt10 (Hook.obs Hook.none) (Hook.val Hook.none) 4000:=by
 intro w
 kernel_rfl
end Mini.Internal
end
set_option autoImplicit false
namespace Mini.Internal
theorem byC {p:Prop}(h:¬ p→False):p:=Classical.byContradiction h
theorem rE {A:Type}{p0:A→Prop}{P:Prop}(k:∀a,p0 a→P)(h:∃a,p0 a):P:=h.elim k
theorem rEE {A B:Type}{p0:A→B→Prop}{P:Prop}(k:∀a b,p0 a b→P)(h:∃a b,p0 a b):P:=rE (fun a=>rE (p0:=p0 a) (k a)) h
theorem Zch {A B C:Type}{p0:A→B→C→Prop}{P:Prop}(k:∀a b c,p0 a b c→P)(h:∃a b c,p0 a b c):P:=rE (fun a=>rEE (p0:=p0 a) (k a)) h
theorem Jw {A B C D:Type}{p0:A→B→C→D→Prop}{P:Prop}(k:∀a b c d,p0 a b c d→P)(h:∃a b c d,p0 a b c d):P:=rE (fun a=>Zch (p0:=p0 a) (k a)) h
theorem Zez {A B C D E:Type}{p0:A→B→C→D→E→Prop}{P:Prop}(k:∀a b c d e,p0 a b c d e→P)(h:∃a b c d e,p0 a b c d e):P:=Jw (fun a b c d=>rE (p0:=p0 a b c d) (k a b c d)) h
theorem Zit {A B C D E F:Type}{p0:A→B→C→D→E→F→Prop}{P:Prop}(k:∀a b c d e f,p0 a b c d e f→P)(h:∃a b c d e f,p0 a b c d e f):P:=Jw (fun a b c d=>rEE (p0:=p0 a b c d) (k a b c d)) h
theorem Zle {A B C D E F G:Type}{p0:A→B→C→D→E→F→G→Prop}{P:Prop}(k:∀a b c d e f g,p0 a b c d e f g→P)(h:∃a b c d e f g,p0 a b c d e f g):P:=Jw (fun a b c d=>Zch (p0:=p0 a b c d) (k a b c d)) h
theorem Zdz {A B C D E F G I:Type}{p0:A→B→C→D→E→F→G→I→Prop}{P:Prop}(k:∀a b c d e f g i,p0 a b c d e f g i→P)(h:∃a b c d e f g i,p0 a b c d e f g i):P:=Jw (fun a b c d=>Jw (p0:=p0 a b c d) (k a b c d)) h
theorem Zhv {A B C D E F G I J:Type}{p0:A→B→C→D→E→F→G→I→J→Prop}{P:Prop}(k:∀a b c d e f g i j,p0 a b c d e f g i j→P)(h:∃a b c d e f g i j,p0 a b c d e f g i j):P:=Jw (fun a b c d=>Zez (p0:=p0 a b c d) (k a b c d)) h
theorem Uw {A B C D E F G I J L M N:Type}{p0:A→B→C→D→E→F→G→I→J→L→M→N→Prop}{P:Prop}(k:∀a b c d e f g i j l m n,p0 a b c d e f g i j l m n→P)(h:∃a b c d e f g i j l m n,p0 a b c d e f g i j l m n):P:=Jw (fun a b c d=>Zdz (p0:=p0 a b c d) (k a b c d)) h
theorem Zci {A B C D E F G I J L M N O:Type}{p0:A→B→C→D→E→F→G→I→J→L→M→N→O→Prop}{P:Prop}(k:∀a b c d e f g i j l m n o,p0 a b c d e f g i j l m n o→P)(h:∃a b c d e f g i j l m n o,p0 a b c d e f g i j l m n o):P:=Jw (fun a b c d=>Zhv (p0:=p0 a b c d) (k a b c d)) h
theorem Wf {A B C D E F G I J L M N O Q R S T:Type}{p0:A→B→C→D→E→F→G→I→J→L→M→N→O→Q→R→S→T→Prop}{P:Prop}(k:∀a b c d e f g i j l m n o q r s t,p0 a b c d e f g i j l m n o q r s t→P)(h:∃a b c d e f g i j l m n o q r s t,p0 a b c d e f g i j l m n o q r s t):P:=Jw (fun a b c d=>Zci (p0:=p0 a b c d) (k a b c d)) h
theorem rA {p0 p1 P:Prop}(k:p0→p1→P)(h:p0∧p1):P:=k h.1 h.2
theorem rAA {p0 p1 p2 P:Prop}(k:p0→p1→p2→P)(h:p0∧p1∧p2):P:=k h.1 h.2.1 h.2.2
theorem rAE {A:Type}{p0:Prop}{p1:A→Prop}{P:Prop}(k:p0→∀a,p1 a→P)(h:p0∧∃a,p1 a):P:=rE (fun a1 b2=>k h.1 a1 b2) h.2
theorem rEA {A:Type}{p0 p1:A→Prop}{P:Prop}(k:∀a,p0 a→p1 a→P)(h:∃a,p0 a∧p1 a):P:=rE (fun a0 b1=>k a0 b1.1 b1.2) h
theorem Zb8 {p0 p1 p2 p3 P:Prop}(k:p0→p1→p2→p3→P)(h:p0∧p1∧p2∧p3):P:=k h.1 h.2.1 h.2.2.1 h.2.2.2
theorem Zlf {A:Type}{p0 p1:Prop}{p2:A→Prop}{P:Prop}(k:p0→p1→∀a,p2 a→P)(h:p0∧p1∧∃a,p2 a):P:=rE (fun a2 b3=>k h.1 h.2.1 a2 b3) h.2.2
theorem Zfz {A:Type}{p0:Prop}{p1 p2:A→Prop}{P:Prop}(k:p0→∀a,p1 a→p2 a→P)(h:p0∧∃a,p1 a∧p2 a):P:=rE (fun a1 b2=>k h.1 a1 b2.1 b2.2) h.2
theorem J5 {A:Type}{p0 p1 p2:A→Prop}{P:Prop}(k:∀a,p0 a→p1 a→p2 a→P)(h:∃a,p0 a∧p1 a∧p2 a):P:=rE (fun a0 b1=>k a0 b1.1 b1.2.1 b1.2.2) h
theorem Jz {A B:Type}{p0 p1:A→B→Prop}{P:Prop}(k:∀a b,p0 a b→p1 a b→P)(h:∃a b,p0 a b∧p1 a b):P:=rEE (fun a0 a1 b2=>k a0 a1 b2.1 b2.2) h
theorem Ziu {p0 p1 p2 p3 p4 P:Prop}(k:p0→p1→p2→p3→p4→P)(h:p0∧p1∧p2∧p3∧p4):P:=k h.1 h.2.1 h.2.2.1 h.2.2.2.1 h.2.2.2.2
theorem Ztu {A:Type}{p0 p1 p2:Prop}{p3:A→Prop}{P:Prop}(k:p0→p1→p2→∀a,p3 a→P)(h:p0∧p1∧p2∧∃a,p3 a):P:=rE (fun a3 b4=>k h.1 h.2.1 h.2.2.1 a3 b4) h.2.2.2
theorem Zqg {A:Type}{p0:Prop}{p1 p2 p3:A→Prop}{P:Prop}(k:p0→∀a,p1 a→p2 a→p3 a→P)(h:p0∧∃a,p1 a∧p2 a∧p3 a):P:=rE (fun a1 b2=>k h.1 a1 b2.1 b2.2.1 b2.2.2) h.2
theorem Ziv {A B:Type}{p0:Prop}{p1 p2:A→B→Prop}{P:Prop}(k:p0→∀a b,p1 a b→p2 a b→P)(h:p0∧∃a b,p1 a b∧p2 a b):P:=rEE (fun a1 a2 b3=>k h.1 a1 a2 b3.1 b3.2) h.2
theorem Q4 {A:Type}{p0 p1 p2 p3:A→Prop}{P:Prop}(k:∀a,p0 a→p1 a→p2 a→p3 a→P)(h:∃a,p0 a∧p1 a∧p2 a∧p3 a):P:=rE (fun a0 b1=>k a0 b1.1 b1.2.1 b1.2.2.1 b1.2.2.2) h
theorem Ztv {A B:Type}{p0:A→Prop}{p1 p2:A→B→Prop}{P:Prop}(k:∀a,p0 a→∀b,p1 a b→p2 a b→P)(h:∃a,p0 a∧∃b,p1 a b∧p2 a b):P:=rE (fun a0 b1=>rE (fun a2 b3=>k a0 b1.1 a2 b3.1 b3.2) b1.2) h
theorem Ym {A B:Type}{p0 p1 p2:A→B→Prop}{P:Prop}(k:∀a b,p0 a b→p1 a b→p2 a b→P)(h:∃a b,p0 a b∧p1 a b∧p2 a b):P:=rEE (fun a0 a1 b2=>k a0 a1 b2.1 b2.2.1 b2.2.2) h
theorem Ztw {A B C:Type}{p0 p1:A→B→C→Prop}{P:Prop}(k:∀a b c,p0 a b c→p1 a b c→P)(h:∃a b c,p0 a b c∧p1 a b c):P:=Zch (fun a0 a1 a2 b3=>k a0 a1 a2 b3.1 b3.2) h
theorem Zac {A:Type}{p0 p1 p2:Prop}{p3 p4:A→Prop}{P:Prop}(k:p0→p1→p2→∀a,p3 a→p4 a→P)(h:p0∧p1∧p2∧∃a,p3 a∧p4 a):P:=rE (fun a3 b4=>k h.1 h.2.1 h.2.2.1 a3 b4.1 b4.2) h.2.2.2
theorem Zrq {A:Type}{p0 p1 p2 p3 p4:A→Prop}{P:Prop}(k:∀a,p0 a→p1 a→p2 a→p3 a→p4 a→P)(h:∃a,p0 a∧p1 a∧p2 a∧p3 a∧p4 a):P:=rE (fun a0 b1=>k a0 b1.1 b1.2.1 b1.2.2.1 b1.2.2.2.1 b1.2.2.2.2) h
theorem Zlg {A B:Type}{p0 p1 p2:A→Prop}{p3:A→B→Prop}{P:Prop}(k:∀a,p0 a→p1 a→p2 a→∀b,p3 a b→P)(h:∃a,p0 a∧p1 a∧p2 a∧∃b,p3 a b):P:=rE (fun a0 b1=>rE (fun a4 b5=>k a0 b1.1 b1.2.1 b1.2.2.1 a4 b5) b1.2.2.2) h
theorem Xl {A B:Type}{p0 p1 p2 p3:A→B→Prop}{P:Prop}(k:∀a b,p0 a b→p1 a b→p2 a b→p3 a b→P)(h:∃a b,p0 a b∧p1 a b∧p2 a b∧p3 a b):P:=rEE (fun a0 a1 b2=>k a0 a1 b2.1 b2.2.1 b2.2.2.1 b2.2.2.2) h
theorem Us {A B C:Type}{p0 p1 p2:A→B→C→Prop}{P:Prop}(k:∀a b c,p0 a b c→p1 a b c→p2 a b c→P)(h:∃a b c,p0 a b c∧p1 a b c∧p2 a b c):P:=Zch (fun a0 a1 a2 b3=>k a0 a1 a2 b3.1 b3.2.1 b3.2.2) h
theorem Zn9 {A B:Type}{p0:Prop}{p1 p2 p3 p4:A→B→Prop}{P:Prop}(k:p0→∀a b,p1 a b→p2 a b→p3 a b→p4 a b→P)(h:p0∧∃a b,p1 a b∧p2 a b∧p3 a b∧p4 a b):P:=rEE (fun a1 a2 b3=>k h.1 a1 a2 b3.1 b3.2.1 b3.2.2.1 b3.2.2.2) h.2
theorem Zoa {A B:Type}{p0 p1 p2 p3 p4:A→B→Prop}{P:Prop}(k:∀a b,p0 a b→p1 a b→p2 a b→p3 a b→p4 a b→P)(h:∃a b,p0 a b∧p1 a b∧p2 a b∧p3 a b∧p4 a b):P:=rEE (fun a0 a1 b2=>k a0 a1 b2.1 b2.2.1 b2.2.2.1 b2.2.2.2.1 b2.2.2.2.2) h
theorem U7 {A B C:Type}{p0 p1 p2 p3:A→B→C→Prop}{P:Prop}(k:∀a b c,p0 a b c→p1 a b c→p2 a b c→p3 a b c→P)(h:∃a b c,p0 a b c∧p1 a b c∧p2 a b c∧p3 a b c):P:=Zch (fun a0 a1 a2 b3=>k a0 a1 a2 b3.1 b3.2.1 b3.2.2.1 b3.2.2.2) h
theorem Ziw {A B C D:Type}{p0 p1 p2:A→B→C→D→Prop}{P:Prop}(k:∀a b c d,p0 a b c d→p1 a b c d→p2 a b c d→P)(h:∃a b c d,p0 a b c d∧p1 a b c d∧p2 a b c d):P:=Jw (fun a0 a1 a2 a3 b4=>k a0 a1 a2 a3 b4.1 b4.2.1 b4.2.2) h
theorem Qf {A B:Type}{p0:Prop}{p1 p2 p3 p4 p5:A→B→Prop}{P:Prop}(k:p0→∀a b,p1 a b→p2 a b→p3 a b→p4 a b→p5 a b→P)(h:p0∧∃a b,p1 a b∧p2 a b∧p3 a b∧p4 a b∧p5 a b):P:=rEE (fun a1 a2 b3=>k h.1 a1 a2 b3.1 b3.2.1 b3.2.2.1 b3.2.2.2.1 b3.2.2.2.2) h.2
theorem Zf0 {A B:Type}{p0 p1 p2 p3 p4 p5:A→B→Prop}{P:Prop}(k:∀a b,p0 a b→p1 a b→p2 a b→p3 a b→p4 a b→p5 a b→P)(h:∃a b,p0 a b∧p1 a b∧p2 a b∧p3 a b∧p4 a b∧p5 a b):P:=rEE (fun a0 a1 b2=>k a0 a1 b2.1 b2.2.1 b2.2.2.1 b2.2.2.2.1 b2.2.2.2.2.1 b2.2.2.2.2.2) h
theorem Zf1 {A B C:Type}{p0 p1 p2 p3 p4:A→B→C→Prop}{P:Prop}(k:∀a b c,p0 a b c→p1 a b c→p2 a b c→p3 a b c→p4 a b c→P)(h:∃a b c,p0 a b c∧p1 a b c∧p2 a b c∧p3 a b c∧p4 a b c):P:=Zch (fun a0 a1 a2 b3=>k a0 a1 a2 b3.1 b3.2.1 b3.2.2.1 b3.2.2.2.1 b3.2.2.2.2) h
theorem Zlh {A B C D:Type}{p0 p1 p2 p3:A→B→C→D→Prop}{P:Prop}(k:∀a b c d,p0 a b c d→p1 a b c d→p2 a b c d→p3 a b c d→P)(h:∃a b c d,p0 a b c d∧p1 a b c d∧p2 a b c d∧p3 a b c d):P:=Jw (fun a0 a1 a2 a3 b4=>k a0 a1 a2 a3 b4.1 b4.2.1 b4.2.2.1 b4.2.2.2) h
theorem Zd0 {A B:Type}{p0:Prop}{p1 p2 p3 p4 p5 p6:A→B→Prop}{P:Prop}(k:p0→∀a b,p1 a b→p2 a b→p3 a b→p4 a b→p5 a b→p6 a b→P)(h:p0∧∃a b,p1 a b∧p2 a b∧p3 a b∧p4 a b∧p5 a b∧p6 a b):P:=rEE (fun a1 a2 b3=>k h.1 a1 a2 b3.1 b3.2.1 b3.2.2.1 b3.2.2.2.1 b3.2.2.2.2.1 b3.2.2.2.2.2) h.2
theorem Zbf {A B:Type}{p0 p1 p2 p3 p4 p5 p6:A→B→Prop}{P:Prop}(k:∀a b,p0 a b→p1 a b→p2 a b→p3 a b→p4 a b→p5 a b→p6 a b→P)(h:∃a b,p0 a b∧p1 a b∧p2 a b∧p3 a b∧p4 a b∧p5 a b∧p6 a b):P:=rEE (fun a0 a1 b2=>k a0 a1 b2.1 b2.2.1 b2.2.2.1 b2.2.2.2.1 b2.2.2.2.2.1 b2.2.2.2.2.2.1 b2.2.2.2.2.2.2) h
theorem W1 {A B C:Type}{p0 p1 p2 p3 p4 p5:A→B→C→Prop}{P:Prop}(k:∀a b c,p0 a b c→p1 a b c→p2 a b c→p3 a b c→p4 a b c→p5 a b c→P)(h:∃a b c,p0 a b c∧p1 a b c∧p2 a b c∧p3 a b c∧p4 a b c∧p5 a b c):P:=Zch (fun a0 a1 a2 b3=>k a0 a1 a2 b3.1 b3.2.1 b3.2.2.1 b3.2.2.2.1 b3.2.2.2.2.1 b3.2.2.2.2.2) h
theorem Zd1 {A B C D:Type}{p0 p1 p2 p3 p4:A→B→C→D→Prop}{P:Prop}(k:∀a b c d,p0 a b c d→p1 a b c d→p2 a b c d→p3 a b c d→p4 a b c d→P)(h:∃a b c d,p0 a b c d∧p1 a b c d∧p2 a b c d∧p3 a b c d∧p4 a b c d):P:=Jw (fun a0 a1 a2 a3 b4=>k a0 a1 a2 a3 b4.1 b4.2.1 b4.2.2.1 b4.2.2.2.1 b4.2.2.2.2) h
theorem Zd2 {A B C D E:Type}{p0 p1 p2 p3:A→B→C→D→E→Prop}{P:Prop}(k:∀a b c d e,p0 a b c d e→p1 a b c d e→p2 a b c d e→p3 a b c d e→P)(h:∃a b c d e,p0 a b c d e∧p1 a b c d e∧p2 a b c d e∧p3 a b c d e):P:=Zez (fun a0 a1 a2 a3 a4 b5=>k a0 a1 a2 a3 a4 b5.1 b5.2.1 b5.2.2.1 b5.2.2.2) h
theorem Zke {A B C D E F G:Type}{p0 p1:A→B→C→D→E→F→G→Prop}{P:Prop}(k:∀a b c d e f g,p0 a b c d e f g→p1 a b c d e f g→P)(h:∃a b c d e f g,p0 a b c d e f g∧p1 a b c d e f g):P:=Zle (fun a0 a1 a2 a3 a4 a5 a6 b7=>k a0 a1 a2 a3 a4 a5 a6 b7.1 b7.2) h
theorem Zcj {A B C D:Type}{p0:Prop}{p1 p2 p3 p4:A→B→Prop}{p5:A→B→C→D→Prop}{P:Prop}(k:p0→∀a b,p1 a b→p2 a b→p3 a b→p4 a b→∀c d,p5 a b c d→P)(h:p0∧∃a b,p1 a b∧p2 a b∧p3 a b∧p4 a b∧∃c d,p5 a b c d):P:=rEE (fun a1 a2 b3=>rEE (fun a7 a8 b9=>k h.1 a1 a2 b3.1 b3.2.1 b3.2.2.1 b3.2.2.2.1 a7 a8 b9) b3.2.2.2.2) h.2
theorem Zhw {A B C D:Type}{p0 p1 p2 p3:A→B→C→Prop}{p4 p5:A→B→C→D→Prop}{P:Prop}(k:∀a b c,p0 a b c→p1 a b c→p2 a b c→p3 a b c→∀d,p4 a b c d→p5 a b c d→P)(h:∃a b c,p0 a b c∧p1 a b c∧p2 a b c∧p3 a b c∧∃d,p4 a b c d∧p5 a b c d):P:=Zch (fun a0 a1 a2 b3=>rE (fun a7 b8=>k a0 a1 a2 b3.1 b3.2.1 b3.2.2.1 b3.2.2.2.1 a7 b8.1 b8.2) b3.2.2.2.2) h
theorem Zad {A B C D:Type}{p0 p1 p2 p3 p4 p5:A→B→C→D→Prop}{P:Prop}(k:∀a b c d,p0 a b c d→p1 a b c d→p2 a b c d→p3 a b c d→p4 a b c d→p5 a b c d→P)(h:∃a b c d,p0 a b c d∧p1 a b c d∧p2 a b c d∧p3 a b c d∧p4 a b c d∧p5 a b c d):P:=Jw (fun a0 a1 a2 a3 b4=>k a0 a1 a2 a3 b4.1 b4.2.1 b4.2.2.1 b4.2.2.2.1 b4.2.2.2.2.1 b4.2.2.2.2.2) h
theorem Zck {A B C D E:Type}{p0 p1 p2 p3 p4:A→B→C→D→E→Prop}{P:Prop}(k:∀a b c d e,p0 a b c d e→p1 a b c d e→p2 a b c d e→p3 a b c d e→p4 a b c d e→P)(h:∃a b c d e,p0 a b c d e∧p1 a b c d e∧p2 a b c d e∧p3 a b c d e∧p4 a b c d e):P:=Zez (fun a0 a1 a2 a3 a4 b5=>k a0 a1 a2 a3 a4 b5.1 b5.2.1 b5.2.2.1 b5.2.2.2.1 b5.2.2.2.2) h
theorem Xm {A B C D E F:Type}{p0 p1 p2 p3:A→B→C→D→E→F→Prop}{P:Prop}(k:∀a b c d e f,p0 a b c d e f→p1 a b c d e f→p2 a b c d e f→p3 a b c d e f→P)(h:∃a b c d e f,p0 a b c d e f∧p1 a b c d e f∧p2 a b c d e f∧p3 a b c d e f):P:=Zit (fun a0 a1 a2 a3 a4 a5 b6=>k a0 a1 a2 a3 a4 a5 b6.1 b6.2.1 b6.2.2.1 b6.2.2.2) h
theorem Wq {A B C D:Type}{p0 p1:Prop}{p2 p3 p4 p5 p6:A→B→C→D→Prop}{P:Prop}(k:p0→p1→∀a b c d,p2 a b c d→p3 a b c d→p4 a b c d→p5 a b c d→p6 a b c d→P)(h:p0∧p1∧∃a b c d,p2 a b c d∧p3 a b c d∧p4 a b c d∧p5 a b c d∧p6 a b c d):P:=Jw (fun a2 a3 a4 a5 b6=>k h.1 h.2.1 a2 a3 a4 a5 b6.1 b6.2.1 b6.2.2.1 b6.2.2.2.1 b6.2.2.2.2) h.2.2
theorem Zf2 {A B C D E:Type}{p0 p1 p2 p3 p4 p5:A→B→C→D→E→Prop}{P:Prop}(k:∀a b c d e,p0 a b c d e→p1 a b c d e→p2 a b c d e→p3 a b c d e→p4 a b c d e→p5 a b c d e→P)(h:∃a b c d e,p0 a b c d e∧p1 a b c d e∧p2 a b c d e∧p3 a b c d e∧p4 a b c d e∧p5 a b c d e):P:=Zez (fun a0 a1 a2 a3 a4 b5=>k a0 a1 a2 a3 a4 b5.1 b5.2.1 b5.2.2.1 b5.2.2.2.1 b5.2.2.2.2.1 b5.2.2.2.2.2) h
theorem Ze0 {A B C:Type}{p0 p1 p2 p3 p4 p5 p6 p7 p8:A→B→C→Prop}{P:Prop}(k:∀a b c,p0 a b c→p1 a b c→p2 a b c→p3 a b c→p4 a b c→p5 a b c→p6 a b c→p7 a b c→p8 a b c→P)(h:∃a b c,p0 a b c∧p1 a b c∧p2 a b c∧p3 a b c∧p4 a b c∧p5 a b c∧p6 a b c∧p7 a b c∧p8 a b c):P:=Zch (fun a0 a1 a2 b3=>k a0 a1 a2 b3.1 b3.2.1 b3.2.2.1 b3.2.2.2.1 b3.2.2.2.2.1 b3.2.2.2.2.2.1 b3.2.2.2.2.2.2.1 b3.2.2.2.2.2.2.2.1 b3.2.2.2.2.2.2.2.2) h
theorem Zar {A B C D E:Type}{p0 p1 p2 p3:A→B→C→Prop}{p4 p5 p6:A→B→C→D→E→Prop}{P:Prop}(k:∀a b c,p0 a b c→p1 a b c→p2 a b c→p3 a b c→∀d e,p4 a b c d e→p5 a b c d e→p6 a b c d e→P)(h:∃a b c,p0 a b c∧p1 a b c∧p2 a b c∧p3 a b c∧∃d e,p4 a b c d e∧p5 a b c d e∧p6 a b c d e):P:=Zch (fun a0 a1 a2 b3=>rEE (fun a7 a8 b9=>k a0 a1 a2 b3.1 b3.2.1 b3.2.2.1 b3.2.2.2.1 a7 a8 b9.1 b9.2.1 b9.2.2) b3.2.2.2.2) h
theorem Xn {A B C D:Type}{p0 p1 p2 p3 p4 p5 p6 p7:A→B→C→D→Prop}{P:Prop}(k:∀a b c d,p0 a b c d→p1 a b c d→p2 a b c d→p3 a b c d→p4 a b c d→p5 a b c d→p6 a b c d→p7 a b c d→P)(h:∃a b c d,p0 a b c d∧p1 a b c d∧p2 a b c d∧p3 a b c d∧p4 a b c d∧p5 a b c d∧p6 a b c d∧p7 a b c d):P:=Jw (fun a0 a1 a2 a3 b4=>k a0 a1 a2 a3 b4.1 b4.2.1 b4.2.2.1 b4.2.2.2.1 b4.2.2.2.2.1 b4.2.2.2.2.2.1 b4.2.2.2.2.2.2.1 b4.2.2.2.2.2.2.2) h
theorem Ze1 {A B C D E:Type}{p0 p1 p2 p3 p4 p5:A→B→C→D→Prop}{p6:A→B→C→D→E→Prop}{P:Prop}(k:∀a b c d,p0 a b c d→p1 a b c d→p2 a b c d→p3 a b c d→p4 a b c d→p5 a b c d→∀e,p6 a b c d e→P)(h:∃a b c d,p0 a b c d∧p1 a b c d∧p2 a b c d∧p3 a b c d∧p4 a b c d∧p5 a b c d∧∃e,p6 a b c d e):P:=Jw (fun a0 a1 a2 a3 b4=>rE (fun a10 b11=>k a0 a1 a2 a3 b4.1 b4.2.1 b4.2.2.1 b4.2.2.2.1 b4.2.2.2.2.1 b4.2.2.2.2.2.1 a10 b11) b4.2.2.2.2.2.2) h
theorem Jg {A B C D:Type}{p0 p1 p2 p3 p4 p5 p6 p7 p8:A→B→C→D→Prop}{P:Prop}(k:∀a b c d,p0 a b c d→p1 a b c d→p2 a b c d→p3 a b c d→p4 a b c d→p5 a b c d→p6 a b c d→p7 a b c d→p8 a b c d→P)(h:∃a b c d,p0 a b c d∧p1 a b c d∧p2 a b c d∧p3 a b c d∧p4 a b c d∧p5 a b c d∧p6 a b c d∧p7 a b c d∧p8 a b c d):P:=Jw (fun a0 a1 a2 a3 b4=>k a0 a1 a2 a3 b4.1 b4.2.1 b4.2.2.1 b4.2.2.2.1 b4.2.2.2.2.1 b4.2.2.2.2.2.1 b4.2.2.2.2.2.2.1 b4.2.2.2.2.2.2.2.1 b4.2.2.2.2.2.2.2.2) h
theorem Q5 {A B C D E F G I:Type}{p0 p1 p2 p3 p4:A→B→C→D→E→F→G→I→Prop}{P:Prop}(k:∀a b c d e f g i,p0 a b c d e f g i→p1 a b c d e f g i→p2 a b c d e f g i→p3 a b c d e f g i→p4 a b c d e f g i→P)(h:∃a b c d e f g i,p0 a b c d e f g i∧p1 a b c d e f g i∧p2 a b c d e f g i∧p3 a b c d e f g i∧p4 a b c d e f g i):P:=Zdz (fun a0 a1 a2 a3 a4 a5 a6 a7 b8=>k a0 a1 a2 a3 a4 a5 a6 a7 b8.1 b8.2.1 b8.2.2.1 b8.2.2.2.1 b8.2.2.2.2) h
theorem U5 {A B C D E F G I J L M N O Q R S T:Type}{p0 p1:A→B→C→D→E→F→G→I→J→L→M→N→O→Q→R→S→T→Prop}{P:Prop}(k:∀a b c d e f g i j l m n o q r s t,p0 a b c d e f g i j l m n o q r s t→p1 a b c d e f g i j l m n o q r s t→P)(h:∃a b c d e f g i j l m n o q r s t,p0 a b c d e f g i j l m n o q r s t∧p1 a b c d e f g i j l m n o q r s t):P:=Wf (fun a0 a1 a2 a3 a4 a5 a6 a7 a8 a9 a10 a11 a12 a13 a14 a15 a16 b17=>k a0 a1 a2 a3 a4 a5 a6 a7 a8 a9 a10 a11 a12 a13 a14 a15 a16 b17.1 b17.2) h
theorem Uo {A B C D E F G I J L M N O Q R S T:Type}{p0 p1 p2 p3:A→B→C→D→E→F→G→I→J→L→M→N→O→Q→R→S→T→Prop}{P:Prop}(k:∀a b c d e f g i j l m n o q r s t,p0 a b c d e f g i j l m n o q r s t→p1 a b c d e f g i j l m n o q r s t→p2 a b c d e f g i j l m n o q r s t→p3 a b c d e f g i j l m n o q r s t→P)(h:∃a b c d e f g i j l m n o q r s t,p0 a b c d e f g i j l m n o q r s t∧p1 a b c d e f g i j l m n o q r s t∧p2 a b c d e f g i j l m n o q r s t∧p3 a b c d e f g i j l m n o q r s t):P:=Wf (fun a0 a1 a2 a3 a4 a5 a6 a7 a8 a9 a10 a11 a12 a13 a14 a15 a16 b17=>k a0 a1 a2 a3 a4 a5 a6 a7 a8 a9 a10 a11 a12 a13 a14 a15 a16 b17.1 b17.2.1 b17.2.2.1 b17.2.2.2) h
end Mini.Internal
namespace Mini.Internal.Lin
theorem byC {p:Prop}(h:¬ p→False):p:=Classical.byContradiction h
inductive T where
 | v (i:Nat)
 | k (n:Nat)
 | a (x y:T)
 | m (n:Nat) (x:T)
 | w (x:T) (n:Nat)
inductive Z where
 | v (i:Nat)
 | k (c:Int)
 | n (t:T)
 | a (x y:Z)
 | s (x y:Z)
 | g (x:Z)
 | m (c:Int) (x:Z)
 | w (x:Z) (c:Int)
noncomputable abbrev T.v0:T:=.v 0
noncomputable abbrev T.v1:T:=.v 1
noncomputable abbrev T.v2:T:=.v 2
noncomputable abbrev T.v3:T:=.v 3
noncomputable abbrev T.v4:T:=.v 4
noncomputable abbrev T.v5:T:=.v 5
noncomputable abbrev T.v6:T:=.v 6
noncomputable abbrev T.v7:T:=.v 7
noncomputable abbrev T.v8:T:=.v 8
noncomputable abbrev T.v9:T:=.v 9
noncomputable abbrev Z.v0:Z:=.v 0
noncomputable abbrev Z.v1:Z:=.v 1
noncomputable abbrev Z.v2:Z:=.v 2
noncomputable abbrev Z.v3:Z:=.v 3
noncomputable abbrev Z.v4:Z:=.v 4
noncomputable abbrev Z.v5:Z:=.v 5
noncomputable abbrev Z.v6:Z:=.v 6
noncomputable abbrev Z.v7:Z:=.v 7
noncomputable abbrev Z.v8:Z:=.v 8
noncomputable abbrev Z.v9:Z:=.v 9
noncomputable abbrev T.k0:T:=.k 0
noncomputable abbrev T.k1:T:=.k 1
noncomputable abbrev Z.k0:Z:=.k 0
noncomputable abbrev Z.k1:Z:=.k 1
inductive F where
 | le (x y:T)
 | lt (x y:T)
 | eq (x y:T)
 | zle (x y:Z)
 | zlt (x y:Z)
 | zeq (x y:Z)
 | no (f:F)
 | an (f g:F)
 | or (f g:F)
 | ff
noncomputable abbrev F.sb (d a b:T):F:=.or (.an (.le b a) (.eq (.a d b) a)) (.an (.le a b) (.eq d .k0))
noncomputable abbrev F.mi (m a b:T):F:=.or (.an (.le a b) (.eq m a)) (.an (.le b a) (.eq m b))
noncomputable abbrev F.mx (m a b:T):F:=.or (.an (.le a b) (.eq m b)) (.an (.le b a) (.eq m a))
noncomputable abbrev F.nt (n:T)(x:Z):F:=.or (.an (.zle .k0 x) (.zeq (.n n) x)) (.an (.zle x .k0) (.eq n .k0))
noncomputable def at_ {α:Type}(d:α):List α→Nat→α
 | [],_=>d
 | x::_,0=>x
 | _::r,i+1=>at_ d r i
noncomputable def T.den (ρ:List Nat):T→Nat
 | .v i=>at_ 0 ρ i
 | .k n=>n
 | .a x y=>x.den ρ+y.den ρ
 | .m n x=>n*x.den ρ
 | .w x n=>x.den ρ*n
noncomputable def Z.den (ρ:List Nat)(ζ:List Int):Z→Int
 | .v i=>at_ 0 ζ i
 | .k c=>c
 | .n t=>(t.den ρ:Nat)
 | .a x y=>x.den ρ ζ+y.den ρ ζ
 | .s x y=>x.den ρ ζ-y.den ρ ζ
 | .g x=>- x.den ρ ζ
 | .m c x=>c*x.den ρ ζ
 | .w x c=>x.den ρ ζ*c
noncomputable def F.den (ρ:List Nat)(ζ:List Int):F→Prop
 | .le x y=>x.den ρ≤y.den ρ
 | .lt x y=>x.den ρ<y.den ρ
 | .eq x y=>x.den ρ=y.den ρ
 | .zle x y=>x.den ρ ζ≤y.den ρ ζ
 | .zlt x y=>x.den ρ ζ<y.den ρ ζ
 | .zeq x y=>x.den ρ ζ=y.den ρ ζ
 | .no f=>¬ f.den ρ ζ
 | .an f g=>f.den ρ ζ∧g.den ρ ζ
 | .or f g=>f.den ρ ζ∨g.den ρ ζ
 | .ff=>False
structure P where
 c:Int
 n:List Int
 z:List Int
noncomputable def Ze2:List Int→List Int→List Int
 | [],l=>l
 | l,[]=>l
 | x::r,y::s=>(x+y)::Ze2 r s
noncomputable def Ze3 (c:Int):List Int→List Int
 | []=>[]
 | x::r=>(c*x)::Ze3 c r
noncomputable def one:Nat→List Int
 | 0=>[1]
 | i+1=>0::one i
noncomputable def U8:List Int→List Nat→Int
 | [],_=>0
 | _::_,[]=>0
 | x::r,y::s=>x*(y:Int)+U8 r s
noncomputable def U9:List Int→List Int→Int
 | [],_=>0
 | _::_,[]=>0
 | x::r,y::s=>x*y+U9 r s
noncomputable def P.ev (ρ:List Nat)(ζ:List Int)(p:P):Int:=p.c+U8 p.n ρ+U9 p.z ζ
noncomputable def P.add (p q:P):P:=⟨p.c+q.c,Ze2 p.n q.n,Ze2 p.z q.z⟩
noncomputable def P.mul (c:Int)(p:P):P:=⟨c*p.c,Ze3 c p.n,Ze3 c p.z⟩
noncomputable def T.pol:T→P
 | .v i=>⟨0,one i,[]⟩
 | .k n=>⟨n,[],[]⟩
 | .a x y=>x.pol.add y.pol
 | .m n x=>x.pol.mul n
 | .w x n=>x.pol.mul n
noncomputable def Z.pol:Z→P
 | .v i=>⟨0,[],one i⟩
 | .k c=>⟨c,[],[]⟩
 | .n t=>t.pol
 | .a x y=>x.pol.add y.pol
 | .s x y=>x.pol.add (y.pol.mul (-1))
 | .g x=>x.pol.mul (-1)
 | .m c x=>x.pol.mul c
 | .w x c=>x.pol.mul c
theorem ac4 (a b c d:Int):a+b+(c+d)=a+c+(b+d):=by lia
theorem Zf3:∀(a b:List Int) (ρ:List Nat),U8 (Ze2 a b) ρ=U8 a ρ+U8 b ρ
 | [],b,ρ=>(Int.zero_add _).symm
 | x::a,[],ρ=>(Int.add_zero _).symm
 | x::a,y::b,[]=>rfl
 | x::a,y::b,r::ρ=>by
  show (x+y)*(r:Int)+U8 (Ze2 a b) ρ=x*r+U8 a ρ+(y*r+U8 b ρ)
  rw[Zf3 a b ρ,Int.add_mul,ac4]
theorem Zf4:∀(a b ζ:List Int),U9 (Ze2 a b) ζ=U9 a ζ+U9 b ζ
 | [],b,ρ=>(Int.zero_add _).symm
 | x::a,[],ρ=>(Int.add_zero _).symm
 | x::a,y::b,[]=>rfl
 | x::a,y::b,r::ρ=>by
  show (x+y)*r+U9 (Ze2 a b) ρ=x*r+U9 a ρ+(y*r+U9 b ρ)
  rw[Zf4 a b ρ,Int.add_mul,ac4]
theorem Zf5 (c:Int):∀(a:List Int) (ρ:List Nat),U8 (Ze3 c a) ρ=c*U8 a ρ
 | [],ρ=>(Int.mul_zero c).symm
 | x::a,[]=>(Int.mul_zero c).symm
 | x::a,r::ρ=>by
  show c*x*(r:Int)+U8 (Ze3 c a) ρ=c*(x*r+U8 a ρ)
  rw[Zf5 c a ρ,Int.mul_add,Int.mul_assoc]
theorem Zf6 (c:Int):∀(a ζ:List Int),U9 (Ze3 c a) ζ=c*U9 a ζ
 | [],ρ=>(Int.mul_zero c).symm
 | x::a,[]=>(Int.mul_zero c).symm
 | x::a,r::ρ=>by
  show c*x*r+U9 (Ze3 c a) ρ=c*(x*r+U9 a ρ)
  rw[Zf6 c a ρ,Int.mul_add,Int.mul_assoc]
theorem Ztx (x y:Int)(h:y=0):1*x+y=x:=by rw[h,Int.one_mul,Int.add_zero]
theorem Zf7:∀(i:Nat) (ρ:List Nat),U8 (one i) ρ=(at_ 0 ρ i:Nat)
 | i,[]=>by cases i <;> rfl
 | 0,r::ρ=>Ztx (r:Int) (U8 [] ρ) rfl
 | i+1,r::ρ=>by
  show 0*(r:Int)+U8 (one i) ρ=(at_ 0 ρ i:Nat)
  rw[Zf7 i ρ,Int.zero_mul,Int.zero_add]
theorem Zf8:∀(i:Nat) (ζ:List Int),U9 (one i) ζ=at_ 0 ζ i
 | i,[]=>by cases i <;> rfl
 | 0,r::ρ=>Ztx r (U9 [] ρ) rfl
 | i+1,r::ρ=>by
  show 0*r+U9 (one i) ρ=at_ 0 ρ i
  rw[Zf8 i ρ,Int.zero_mul,Int.zero_add]
section
variable {ρ:List Nat}{ζ:List Int}
theorem P.ev_add (p q:P):(p.add q).ev ρ ζ=p.ev ρ ζ+q.ev ρ ζ:=by
 show p.c+q.c+U8 (Ze2 p.n q.n) ρ+U9 (Ze2 p.z q.z) ζ=p.c+U8 p.n ρ+U9 p.z ζ+(q.c+U8 q.n ρ+U9 q.z ζ)
 rw[Zf3,Zf4,ac4 p.c q.c,ac4 (p.c+U8 p.n ρ)]
theorem P.ev_mul (c:Int)(p:P):(p.mul c).ev ρ ζ=c*p.ev ρ ζ:=by
 show c*p.c+U8 (Ze3 c p.n) ρ+U9 (Ze3 c p.z) ζ=c*(p.c+U8 p.n ρ+U9 p.z ζ)
 rw[Zf5,Zf6,Int.mul_add,Int.mul_add]
theorem T.ev_pol:∀t:T,t.pol.ev ρ ζ=(t.den ρ:Nat)
 | .v i=>by
  show 0+U8 (one i) ρ+0=(at_ 0 ρ i:Nat)
  rw[Zf7,Int.add_zero,Int.zero_add]
 | .k n=>by
  show (n:Int)+0+0=n
  rw[Int.add_zero,Int.add_zero]
 | .a x y=>(P.ev_add _ _).trans ((congr (congrArg HAdd.hAdd (T.ev_pol x)) (T.ev_pol y)).trans (Int.natCast_add _ _).symm)
 | .m n x=>(P.ev_mul _ _).trans ((congrArg _ (T.ev_pol x)).trans (Int.natCast_mul _ _).symm)
 | .w x n=>(P.ev_mul _ _).trans ((congrArg _ (T.ev_pol x)).trans ((Int.mul_comm _ _).trans (Int.natCast_mul _ _).symm))
theorem Z.ev_pol:∀t:Z,t.pol.ev ρ ζ=t.den ρ ζ
 | .v i=>by
  show 0+0+U9 (one i) ζ=at_ 0 ζ i
  rw[Zf8,Int.add_zero,Int.zero_add]
 | .k c=>by
  show c+0+0=c
  rw[Int.add_zero,Int.add_zero]
 | .n t=>T.ev_pol t
 | .a x y=>(P.ev_add _ _).trans (congr (congrArg HAdd.hAdd (Z.ev_pol x)) (Z.ev_pol y))
 | .s x y=>by
  show (x.pol.add (y.pol.mul (-1))).ev ρ ζ=x.den ρ ζ-y.den ρ ζ
  rw[P.ev_add,P.ev_mul,Z.ev_pol x,Z.ev_pol y];lia
 | .g x=>by
  show (x.pol.mul (-1)).ev ρ ζ = - x.den ρ ζ
  rw[P.ev_mul,Z.ev_pol x];lia
 | .m c x=>(P.ev_mul _ _).trans (congrArg _ (Z.ev_pol x))
 | .w x c=>(P.ev_mul _ _).trans ((congrArg _ (Z.ev_pol x)).trans (Int.mul_comm _ _))
end
inductive Ct where
 | l (cs:List Nat)
 | s (a b:Ct)
noncomputable def dig:Nat→Nat→List Nat→List Nat
 | 0,_,r=>r
 | f+1,n,r=>bif Nat.ble n 1 then r else dig f (n/10) (n%10::r)
noncomputable abbrev Ct.d (n:Nat):Ct:=.l (dig 40 n [])
noncomputable def Zae (p q:P)(c:Int):P:=(p.add (q.mul (-1))).add ⟨c,[],[]⟩
theorem Zas {ρ:List Nat}{ζ:List Int}(p q:P)(c:Int):(Zae p q c).ev ρ ζ=p.ev ρ ζ-q.ev ρ ζ+c:=by
 have h:P.ev ρ ζ ⟨c,[],[]⟩=c:=(Int.add_zero (c+0)).trans (Int.add_zero c)
 rw[Zae,P.ev_add,P.ev_add,P.ev_mul,h];lia
noncomputable def Zob:List Nat→List P→P
 | [],_=>⟨0,[],[]⟩
 | _::_,[]=>⟨0,[],[]⟩
 | c::cs,p::ps=>(p.mul (c:Nat)).add (Zob cs ps)
noncomputable def Zcl:List Int→Bool
 | []=>true
 | x::r=>(0≤x:Bool)&&Zcl r
noncomputable def Zat:List Int→Bool
 | []=>true
 | x::r=>(x == 0)&&Zat r
noncomputable def P.bad (p:P):Bool:=decide (0<p.c)&&Zcl p.n&&Zat p.z
theorem Zix {ρ:List Nat}{ζ:List Int}:∀(cs:List Nat) (ps:List P),(∀p∈ps,p.ev ρ ζ≤0)→(Zob cs ps).ev ρ ζ≤0
 | [],_,_=>Int.le_refl 0
 | _::_,[],_=>Int.le_refl 0
 | c::cs,p::ps,h=>by
  have h1:=h p List.mem_cons_self
  have h2:=Zix cs ps fun q hq=>h q (List.mem_cons_of_mem _ hq)
  show ((p.mul (c:Nat)).add (Zob cs ps)).ev ρ ζ≤0
  rw[P.ev_add,P.ev_mul]
  have:=Int.mul_le_mul_of_nonneg_left h1 (Int.natCast_nonneg c)
  lia
theorem Zcm:∀(l:List Int) (ρ:List Nat),Zcl l=true→0≤U8 l ρ
 | [],_,_=>Int.le_refl _
 | x::l,[],_=>Int.le_refl _
 | x::l,r::ρ,h=>by
  have h:(decide (0≤x)&&Zcl l)=true:=h
  rw[Bool.and_eq_true] at h
  exact Int.add_nonneg (Int.mul_nonneg (of_decide_eq_true h.1) (Int.natCast_nonneg r)) (Zcm l ρ h.2)
theorem Zbz:∀(l ζ:List Int),Zat l=true→U9 l ζ=0
 | [],_,_=>rfl
 | x::l,[],_=>rfl
 | x::l,r::ρ,h=>by
  have h:(x == 0&&Zat l)=true:=h
  rw[Bool.and_eq_true] at h
  show x*r+U9 l ρ=0
  rw[beq_iff_eq.mp h.1,Zbz l ρ h.2,Int.zero_mul];rfl
theorem Zoc {ρ:List Nat}{ζ:List Int}{p:P}(h:p.bad=true):0<p.ev ρ ζ:=by
 have h:(decide (0<p.c)&&Zcl p.n&&Zat p.z)=true:=h
 rw[Bool.and_eq_true,Bool.and_eq_true] at h
 have h1:=Zcm p.n ρ h.1.2
 show 0<p.c+U8 p.n ρ+U9 p.z ζ
 rw[Zbz p.z ζ h.2,Int.add_zero]
 exact Int.lt_of_lt_of_le (of_decide_eq_true h.1.1) (Int.le_add_of_nonneg_right h1)
inductive W where
 | ps (l:List P)
 | two (f:F) (b:Bool) (g:F) (c:Bool)
 | alt (f:F) (b:Bool) (g:F) (c:Bool)
 | done
 | not (f:F) (b:Bool)
noncomputable def F.step:F→Bool→W
 | .le x y,true=>.ps [Zae x.pol y.pol 0]
 | .le x y,false=>.ps [Zae y.pol x.pol 1]
 | .lt x y,true=>.ps [Zae x.pol y.pol 1]
 | .lt x y,false=>.ps [Zae y.pol x.pol 0]
 | .eq x y,true=>.ps [Zae x.pol y.pol 0,Zae y.pol x.pol 0]
 | .eq x y,false=>.alt (.lt x y) true (.lt y x) true
 | .zle x y,true=>.ps [Zae x.pol y.pol 0]
 | .zle x y,false=>.ps [Zae y.pol x.pol 1]
 | .zlt x y,true=>.ps [Zae x.pol y.pol 1]
 | .zlt x y,false=>.ps [Zae y.pol x.pol 0]
 | .zeq x y,true=>.ps [Zae x.pol y.pol 0,Zae y.pol x.pol 0]
 | .zeq x y,false=>.alt (.zlt x y) true (.zlt y x) true
 | .no f,b=>.not f (!b)
 | .an f g,true=>.two f true g true
 | .an f g,false=>.alt f false g false
 | .or f g,true=>.alt f true g true
 | .or f g,false=>.two f false g false
 | .ff,true=>.done
 | .ff,false=>.ps []
noncomputable def sg (ρ:List Nat)(ζ:List Int)(f:F)(b:Bool):Prop:=if b then f.den ρ ζ else ¬ f.den ρ ζ
noncomputable def chk:Nat→List P→List (F×Bool)→Ct→Bool
 | 0,_,_,_=>false
 | _+1,ps,[],.l cs=>(Zob cs ps).bad
 | _+1,_,[],.s _ _=>false
 | n+1,ps,(f,b)::fs,ct=>match f.step b with
  | .ps l=>chk n (ps++l) fs ct
  | .two f b g c=>chk n ps ((f,b)::(g,c)::fs) ct
  | .alt f b g c=>match ct with
   | .s x y=>chk n ps ((f,b)::fs) x&&chk n ps ((g,c)::fs) y
   | .l _=>false
  | .done=>true
  | .not f b=>chk n ps ((f,b)::fs) ct
theorem Z3 {ρ:List Nat}{ζ:List Int}:∀(n:Nat) (ps:List P) (fs:List (F×Bool)) (ct:Ct),chk n ps fs ct=true→(∀p∈ps,p.ev ρ ζ≤0)→(∀f∈fs,sg ρ ζ f.1 f.2)→False
 | 0,_,_,_,h,_,_=>by cases h
 | n+1,ps,[],.l cs,h,hp,_=>by
  have h1:=Zix cs ps hp
  have h2:=Zoc (ρ:=ρ) (ζ:=ζ) h
  lia
 | n+1,ps,[],.s _ _,h,_,_=>by cases h
 | n+1,ps,(f,b)::fs,ct,h,hp,hf=>by
  have hf0:=hf (f,b) List.mem_cons_self
  have hfr:∀g∈fs,sg ρ ζ g.1 g.2:=fun g hg=>hf g (List.mem_cons_of_mem _ hg)
  have cons2:∀{g:F}{c:Bool},sg ρ ζ g c→∀x∈(g,c)::fs,sg ρ ζ x.1 x.2:=fun hg x hx=>by
   rcases List.mem_cons.mp hx with rfl | hx
   ·exact hg
   ·exact hfr x hx
  have app:∀{l:List P},(∀p∈l,p.ev ρ ζ≤0)→∀p∈ps++l,p.ev ρ ζ≤0:=fun hl p hm=>by
   rcases List.mem_append.mp hm with h | h
   ·exact hp p h
   ·exact hl p h
  have o1:∀{p q:P}{c:Int},p.ev ρ ζ-q.ev ρ ζ+c≤0→∀x∈[Zae p q c],x.ev ρ ζ≤0:=fun hq x hx=>by
   rw[List.mem_singleton.mp hx,Zas];exact hq
  cases f with
  | le x y=>
   cases b with
   | true=>exact Z3 n _ fs ct h (app (o1 (by have:x.den ρ≤y.den ρ:=hf0;simp only[T.ev_pol];lia))) hfr
   | false=>exact Z3 n _ fs ct h (app (o1 (by have:¬ x.den ρ≤y.den ρ:=hf0;simp only[T.ev_pol];lia))) hfr
  | lt x y=>
   cases b with
   | true=>exact Z3 n _ fs ct h (app (o1 (by have:x.den ρ<y.den ρ:=hf0;simp only[T.ev_pol];lia))) hfr
   | false=>exact Z3 n _ fs ct h (app (o1 (by have:¬ x.den ρ<y.den ρ:=hf0;simp only[T.ev_pol];lia))) hfr
  | eq x y=>
   cases b with
   | true=>
    have hq:x.den ρ=y.den ρ:=hf0
    exact Z3 n _ fs ct h (app fun p hm=>by
     rcases List.mem_cons.mp hm with rfl | hm
     ·rw[Zas];simp only[T.ev_pol];lia
     ·rw[List.mem_singleton.mp hm,Zas];simp only[T.ev_pol];lia) hfr
   | false=>
    have hq:¬ x.den ρ=y.den ρ:=hf0
    cases ct with
    | l _=>cases h
    | s a c=>
     have h:=Bool.and_eq_true_iff.mp h
     rcases Nat.lt_or_gt_of_ne hq with h0 | h0
     ·exact Z3 n _ _ a h.1 hp (cons2 (show sg ρ ζ (.lt x y) true from h0))
     ·exact Z3 n _ _ c h.2 hp (cons2 (show sg ρ ζ (.lt y x) true from h0))
  | zle x y=>
   cases b with
   | true=>exact Z3 n _ fs ct h (app (o1 (by have:x.den ρ ζ≤y.den ρ ζ:=hf0;simp only[Z.ev_pol];lia))) hfr
   | false=>exact Z3 n _ fs ct h (app (o1 (by have:¬ x.den ρ ζ≤y.den ρ ζ:=hf0;simp only[Z.ev_pol];lia))) hfr
  | zlt x y=>
   cases b with
   | true=>exact Z3 n _ fs ct h (app (o1 (by have:x.den ρ ζ<y.den ρ ζ:=hf0;simp only[Z.ev_pol];lia))) hfr
   | false=>exact Z3 n _ fs ct h (app (o1 (by have:¬ x.den ρ ζ<y.den ρ ζ:=hf0;simp only[Z.ev_pol];lia))) hfr
  | zeq x y=>
   cases b with
   | true=>
    have hq:x.den ρ ζ=y.den ρ ζ:=hf0
    exact Z3 n _ fs ct h (app fun p hm=>by
     rcases List.mem_cons.mp hm with rfl | hm
     ·rw[Zas];simp only[Z.ev_pol];lia
     ·rw[List.mem_singleton.mp hm,Zas];simp only[Z.ev_pol];lia) hfr
   | false=>
    have hq:¬ x.den ρ ζ=y.den ρ ζ:=hf0
    cases ct with
    | l _=>cases h
    | s a c=>
     have h:=Bool.and_eq_true_iff.mp h
     rcases Int.lt_or_gt_of_ne hq with h0 | h0
     ·exact Z3 n _ _ a h.1 hp (cons2 (show sg ρ ζ (.zlt x y) true from h0))
     ·exact Z3 n _ _ c h.2 hp (cons2 (show sg ρ ζ (.zlt y x) true from h0))
  | no f=>
   refine Z3 n _ _ ct h hp (cons2 ?_)
   cases b with
   | true=>exact hf0
   | false=>exact Classical.not_not.mp hf0
  | an f g=>
   cases b with
   | true=>
    have hq:f.den ρ ζ∧g.den ρ ζ:=hf0
    refine Z3 n _ _ ct h hp fun x hx=>?_
    rcases List.mem_cons.mp hx with rfl | hx
    ·exact hq.1
    ·exact cons2 (show sg ρ ζ g true from hq.2) x hx
   | false=>
    have hq:¬ (f.den ρ ζ∧g.den ρ ζ):=hf0
    cases ct with
    | l _=>cases h
    | s a c=>
     have h:=Bool.and_eq_true_iff.mp h
     rcases Classical.not_and_iff_not_or_not.mp hq with h0 | h0
     ·exact Z3 n _ _ a h.1 hp (cons2 (show sg ρ ζ f false from h0))
     ·exact Z3 n _ _ c h.2 hp (cons2 (show sg ρ ζ g false from h0))
  | or f g=>
   cases b with
   | true=>
    have hq:f.den ρ ζ∨g.den ρ ζ:=hf0
    cases ct with
    | l _=>cases h
    | s a c=>
     have h:=Bool.and_eq_true_iff.mp h
     rcases hq with h0 | h0
     ·exact Z3 n _ _ a h.1 hp (cons2 (show sg ρ ζ f true from h0))
     ·exact Z3 n _ _ c h.2 hp (cons2 (show sg ρ ζ g true from h0))
   | false=>
    have hq:¬ (f.den ρ ζ∨g.den ρ ζ):=hf0
    have hq:=not_or.mp hq
    refine Z3 n _ _ ct h hp fun x hx=>?_
    rcases List.mem_cons.mp hx with rfl | hx
    ·exact hq.1
    ·exact cons2 (show sg ρ ζ g false from hq.2) x hx
  | ff=>
   cases b with
   | true=>exact hf0
   | false=>exact Z3 n _ fs ct h (app fun p hm=>by cases hm) hfr
noncomputable def imp (ρ:List Nat)(ζ:List Int)(g:F):List F→Prop
 | []=>g.den ρ ζ
 | h::hs=>h.den ρ ζ→imp ρ ζ g hs
theorem Zli {ρ:List Nat}{ζ:List Int}{g:F}:∀(hs:List F),((∀h∈hs,h.den ρ ζ)→g.den ρ ζ)→imp ρ ζ g hs
 | [],k=>k fun u_ h=>nomatch h
 | h::hs,k=>fun x=>Zli hs fun y=>k fun z hz=>by
  rcases List.mem_cons.mp hz with rfl | hz
  ·exact x
  ·exact y z hz
theorem lin (hs:List F)(g:F)(ct:Ct)(ok:chk 400 [] ((g,false)::hs.map fun h=>(h,true)) ct=true)(ρ:List Nat)(ζ:List Int):imp ρ ζ g hs :=
 Zli hs fun h=>Classical.byContradiction fun hn=>Z3 400 [] _ ct ok (fun u_ h=>nomatch h) fun f hf=>by
  rcases List.mem_cons.mp hf with rfl | hf
  ·exact hn
  ·refine byC fun hX=>?_;obtain ⟨x,hx,rfl⟩:=List.mem_map.mp hf;refine hX ?_;clear hX
   exact h x hx
theorem Zd (a b:Nat):(b≤a∧a-b+b=a)∨(a≤b∧a-b=0):=by
 rcases Nat.le_total b a with h | h
 ·exact .inl ⟨h,Nat.sub_add_cancel h⟩
 ·exact .inr ⟨h,Nat.sub_eq_zero_of_le h⟩
theorem J6 (a n:Nat)(h:0<n):n*(a / n)≤a∧a<n*(a / n)+n:=⟨Nat.mul_div_le a n,Nat.lt_mul_div_succ a h⟩
theorem U2 (x:Int):(0≤x∧(x.toNat:Int)=x)∨(x≤0∧x.toNat=0):=by
 rcases Int.le_total 0 x with h | h
 ·exact .inl ⟨h,Int.toNat_of_nonneg h⟩
 ·exact .inr ⟨h,Int.toNat_of_nonpos h⟩
theorem Yc (a b:Nat):(a≤b∧min a b=a)∨(b≤a∧min a b=b):=by
 rcases Nat.le_total a b with h | h
 ·exact .inl ⟨h,Nat.min_eq_left h⟩
 ·exact .inr ⟨h,Nat.min_eq_right h⟩
theorem Qg (a b:Nat):(a≤b∧max a b=b)∨(b≤a∧max a b=a):=by
 rcases Nat.le_total a b with h | h
 ·exact .inl ⟨h,Nat.max_eq_right h⟩
 ·exact .inr ⟨h,Nat.max_eq_left h⟩
theorem ln1 (hs:List F)(g:F)(ct:Ct)(ok:chk 400 [] ((g,false)::hs.map fun h=>(h,true)) ct=true){a:Nat}:imp [a] [] g hs:=lin hs g ct ok [a] []
theorem ln2 (hs:List F)(g:F)(ct:Ct)(ok:chk 400 [] ((g,false)::hs.map fun h=>(h,true)) ct=true){a b:Nat}:imp [a,b] [] g hs:=lin hs g ct ok [a,b] []
theorem ln3 (hs:List F)(g:F)(ct:Ct)(ok:chk 400 [] ((g,false)::hs.map fun h=>(h,true)) ct=true){a b c:Nat}:imp [a,b,c] [] g hs:=lin hs g ct ok [a,b,c] []
theorem ln4 (hs:List F)(g:F)(ct:Ct)(ok:chk 400 [] ((g,false)::hs.map fun h=>(h,true)) ct=true){a b c d:Nat}:imp [a,b,c,d] [] g hs:=lin hs g ct ok [a,b,c,d] []
theorem ln5 (hs:List F)(g:F)(ct:Ct)(ok:chk 400 [] ((g,false)::hs.map fun h=>(h,true)) ct=true){a b c d e:Nat}:imp [a,b,c,d,e] [] g hs:=lin hs g ct ok [a,b,c,d,e] []
theorem ln6 (hs:List F)(g:F)(ct:Ct)(ok:chk 400 [] ((g,false)::hs.map fun h=>(h,true)) ct=true){a b c d e x:Nat}:imp [a,b,c,d,e,x] [] g hs:=lin hs g ct ok [a,b,c,d,e,x] []
theorem ln7 (hs:List F)(g:F)(ct:Ct)(ok:chk 400 [] ((g,false)::hs.map fun h=>(h,true)) ct=true){a b c d e x y:Nat}:imp [a,b,c,d,e,x,y] [] g hs:=lin hs g ct ok [a,b,c,d,e,x,y] []
theorem lz1 (hs:List F)(g:F)(ct:Ct)(ok:chk 400 [] ((g,false)::hs.map fun h=>(h,true)) ct=true){a:Int}:imp [] [a] g hs:=lin hs g ct ok [] [a]
theorem lz2 (hs:List F)(g:F)(ct:Ct)(ok:chk 400 [] ((g,false)::hs.map fun h=>(h,true)) ct=true){a b:Int}:imp [] [a,b] g hs:=lin hs g ct ok [] [a,b]
theorem lz3 (hs:List F)(g:F)(ct:Ct)(ok:chk 400 [] ((g,false)::hs.map fun h=>(h,true)) ct=true){a b c:Int}:imp [] [a,b,c] g hs:=lin hs g ct ok [] [a,b,c]
theorem lz4 (hs:List F)(g:F)(ct:Ct)(ok:chk 400 [] ((g,false)::hs.map fun h=>(h,true)) ct=true){a b c d:Int}:imp [] [a,b,c,d] g hs:=lin hs g ct ok [] [a,b,c,d]
theorem lz5 (hs:List F)(g:F)(ct:Ct)(ok:chk 400 [] ((g,false)::hs.map fun h=>(h,true)) ct=true){a b c d e:Int}:imp [] [a,b,c,d,e] g hs:=lin hs g ct ok [] [a,b,c,d,e]
theorem lz6 (hs:List F)(g:F)(ct:Ct)(ok:chk 400 [] ((g,false)::hs.map fun h=>(h,true)) ct=true){a b c d e x:Int}:imp [] [a,b,c,d,e,x] g hs:=lin hs g ct ok [] [a,b,c,d,e,x]
end Mini.Internal.Lin
open Mini.Internal.Lin (lin Zd U2 Yc Qg J6 ln1 ln2 ln3 ln4 ln5 ln6 ln7 lz1 lz2 lz3 lz4 lz5 lz6)
set_option genCtorIdx true
set_option genSizeOf false
set_option genSizeOfSpec false
namespace Mini.Internal
open PySem
theorem Zw {α β:Type}{x:Option α}{f:α→Option β}{b:β}{P:Prop}(h:x.bind f=some b)(k:∀a,x=some a→f a=some b→P):P:=by
 cases x with
 | none=>cases h
 | some a=>exact k a rfl h
theorem map_e {α β:Type}{x:Option α}{f:α→β}{b:β}{P:β→Prop}(h:x.map f=some b)(k:∀a,x=some a→P (f a)):P b:=by
 cases x with
 | none=>cases h
 | some a=>cases h;exact k a rfl
theorem Jx {α β:Type}{x:Option α}{f:α→β}{b:β}{P:Prop}(h:x.map f=some b)(k:∀a,x=some a→f a=b→P):P:=by
 cases x with
 | none=>cases h
 | some a=>exact k a rfl (Option.some.inj h)
theorem Ziy {α:Type}{c:Prop}{dc:Decidable c}{x:Option α}{b:α}{P:Prop}(h:(if c then x else .none)=some b)(k:c→x=some b→P):P:=by
 by_cases hc:c
 ·rw[if_pos hc] at h;exact k hc h
 ·rw[if_neg hc] at h;cases h
inductive V where
 | none
 | bool (b:Bool)
 | int (i:Int)
 | str (s:Str)
 | tup (l:List V)
 | obj (n:Nat)
 | ty (t:Nat)
 | frz (l:List Int)
inductive O where
 | list (l:List V)
 | inst (c:Nat) (d:Nat)
 | ns (l:List (Nat×V))
abbrev H:=List O
abbrev L:=List (Option V)
inductive Bop where | add | sub | mul | fdiv | mod | pow
 deriving DecidableEq
inductive Cop where | eq | ne | lt | le | gt | ge | is | isnot | mem | nmem
 deriving DecidableEq
inductive Blt where | len | max | min | sorted | int | list | sum | isinstance
 deriving DecidableEq
inductive Mth where | append | pop
 deriving DecidableEq
set_option genInjectivity false
set_option genCtorIdx false
mutual
inductive Ex where
 | lit (v:V)
 | var (i:Nat)
 | ty (t:Nat)
 | bin (op:Bop) (a b:Ex)
 | neg (a:Ex)
 | not (a:Ex)
 | and (a b:Ex)
 | or (a b:Ex)
 | cmp (a:Ex) (r:Ch)
 | ife (c a b:Ex)
 | tup (es:Es)
 | lst (es:Es)
 | idx (a i:Ex)
 | slc (a:Ex) (lo hi st:Oe)
 | comp (elt:Ex) (tg:Nat) (it:It) (ifs:Es)
 | call (f:Nat) (as:Es)
 | blt (b:Blt) (as:Es)
 | mth (m:Mth) (o:Ex) (as:Es)
 | ucall (m:Nat) (o:Ex) (as:Es)
 | attr (o:Ex) (a:Nat)
 | new (c:Nat) (as:Es)
inductive Es where
 | nil
 | cons (e:Ex) (es:Es)
inductive Ch where
 | one (op:Cop) (b:Ex)
 | more (op:Cop) (b:Ex) (r:Ch)
inductive Oe where
 | no
 | yes (e:Ex)
inductive It where
 | ex (e:Ex)
 | rng1 (e:Ex)
 | rng2 (a b:Ex)
end
noncomputable abbrev Ex.i (n:Int):Ex:=.lit (.int n)
noncomputable abbrev Ex.v0:Ex:=.var 0
noncomputable abbrev Ex.v1:Ex:=.var 1
noncomputable abbrev Ex.v2:Ex:=.var 2
noncomputable abbrev Ex.v3:Ex:=.var 3
noncomputable abbrev Ex.v4:Ex:=.var 4
noncomputable abbrev Ex.v5:Ex:=.var 5
noncomputable abbrev Ex.v6:Ex:=.var 6
noncomputable abbrev Ex.v7:Ex:=.var 7
noncomputable abbrev Ex.v8:Ex:=.var 8
noncomputable abbrev Ex.v9:Ex:=.var 9
inductive Tg where
 | one (i:Nat)
 | three (i j k:Nat)
mutual
inductive St where
 | expr (e:Ex)
 | asg (t:Tg) (e:Ex)
 | aset (o:Ex) (a:Nat) (e:Ex)
 | iset (o i e:Ex)
 | ret (e:Ex)
 | ife (c:Ex) (a b:Ss)
 | for_ (t:Tg) (it:It) (b:Ss)
 | whl (c:Ex) (b:Ss)
 | brk
 | pass
 | raise (c:Nat)
 | try_ (b:Ss) (c:Nat) (h:Ss)
inductive Ss where
 | nil
 | cons (s:St) (ss:Ss)
end
set_option genCtorIdx true
inductive R (α:Type) where
 | ok (a:α)
 | exc (c:Nat)
theorem nn {α:Type}{a:α}{P:Prop}(h:Option.none=some a):P:=nomatch h
theorem ns {α:Type}{a:α}{P:Prop}(h:some a=Option.none):P:=nomatch h
theorem tf {P:Prop}(h:true=false):P:=nomatch h
theorem ft {P:Prop}(h:false=true):P:=nomatch h
theorem X8 {a b:Bool}(h:a=true)(k:b=true):(a&&b)=true:=by rw[h,k];rfl
theorem Ud {a b:Bool}(h:(a&&b)=true):a=true:=by cases a with
 | true=>rfl
 | false=>exact ft h
theorem W2 {a b:Bool}(h:(a&&b)=true):b=true:=by cases a with
 | true=>exact h
 | false=>exact ft h
theorem eo {α:Type}{v:Nat}{w:α}{P:Prop}(h:R.exc v=R.ok w):P:=by cases h
theorem oe {α:Type}{v:Nat}{w:α}{P:Prop}(h:R.ok w=R.exc v):P:=by cases h
theorem soe {α β:Type}{v:Nat}{w:α}{s t:β}{P:Prop}(h:some (R.ok w,s)=some (R.exc v,t)):P:=by cases h
theorem seo {α β:Type}{v:Nat}{w:α}{s t:β}{P:Prop}(h:some (R.exc v,s)=some (R.ok w,t)):P:=by cases h
theorem oi {α:Type}{v w:α}(h:R.ok v=R.ok w):v=w:=by cases h;rfl
theorem ei {α:Type}{v w:Nat}(h:R.exc (α:=α) v=R.exc w):v=w:=by cases h;rfl
theorem okJ {α β:Type}{v w:α}{s t:β}(h:some (R.ok v,s)=some (R.ok w,t)):v=w∧s=t:=by cases h;exact ⟨rfl,rfl⟩
theorem exJ {α β:Type}{v w:Nat}{s t:β}(h:some (R.exc (α:=α) v,s)=some (R.exc w,t)):v=w∧s=t:=by cases h;exact ⟨rfl,rfl⟩
theorem pJ {α β:Type}{v w:α}{s t:β}(h:some (v,s)=some (w,t)):v=w∧s=t:=by cases h;exact ⟨rfl,rfl⟩
theorem pJ3 {α β γ:Type}{v w:α}{s t:β}{x y:γ}(h:some (v,s,x)=some (w,t,y)):v=w∧s=t∧x=y:=by cases h;exact ⟨rfl,rfl,rfl⟩
@[elab_as_elim] theorem eqS {α:Type}{x t:α}{P:α→Prop} (h:x=t) (k:P t):P x:=h▸k
@[elab_as_elim] theorem eqE {α:Type}{x t:α}{P:α→Prop} (h:t=x) (k:P t):P x:=h▸k
@[elab_as_elim] theorem siE {α:Type}{x t:α}{P:α→Prop} (h:some t=some x) (k:P t):P x:=Option.some.inj h▸k
@[elab_as_elim] theorem oiE {α:Type}{v w:α}{P:α→Prop} (h:R.ok v=R.ok w) (k:P v):P w:=oi h▸k
@[elab_as_elim] theorem eiE {α:Type}{v w:Nat}{P:Nat→Prop} (h:R.exc (α:=α) v=R.exc w) (k:P v):P w:=ei h▸k
@[elab_as_elim] theorem okE {α β:Type}{v w:α}{s t:β}{P:α→β→Prop} (h:some (R.ok v,s)=some (R.ok w,t)) (k:P v s):P w t:=(okJ h).1▸(okJ h).2▸k
@[elab_as_elim] theorem exE {α β:Type}{v w:Nat}{s t:β}{P:Nat→β→Prop} (h:some (R.exc (α:=α) v,s)=some (R.exc w,t)) (k:P v s):P w t:=(exJ h).1▸(exJ h).2▸k
@[elab_as_elim] theorem pE {α β:Type}{v w:α}{s t:β}{P:α→β→Prop} (h:some (v,s)=some (w,t)) (k:P v s):P w t:=(pJ h).1▸(pJ h).2▸k
@[elab_as_elim] theorem piE {α β:Type}{v w:α}{s t:β}{P:α→β→Prop} (h:(v,s)=(w,t)) (k:P v s):P w t:=(Prod.mk.inj h).1▸(Prod.mk.inj h).2▸k
@[elab_as_elim] theorem p3E {α β γ:Type}{v w:α}{s t:β}{x y:γ}{P:α→β→γ→Prop} (h:some (v,s,x)=some (w,t,y)) (k:P v s x):P w t y:=(pJ3 h).1▸(pJ3 h).2.1▸(pJ3 h).2.2▸k
abbrev X (α:Type):=Option (R α×H)
noncomputable def bnd {α β:Type}(x:X α)(f:α→H→X β):X β :=
 match x with
 | .none=>.none
 | some (.ok a,σ)=>f a σ
 | some (.exc c,σ)=>some (.exc c,σ)
@[simp] theorem bnd_none {α β:Type}(f:α→H→X β):bnd .none f=.none:=rfl
@[simp] theorem bnd_ok {α β:Type}(a:α)(σ:H)(f:α→H→X β):bnd (some (.ok a,σ)) f=f a σ:=rfl
@[simp] theorem bnd_exc {α β:Type}(c:Nat)(σ:H)(f:α→H→X β):bnd (some (.exc c,σ)) f=some (.exc c,σ):=rfl
noncomputable def bok {α β:Type}(x:X α)(f:α→H→X β):X β :=
 match x with
 | some (.ok a,σ)=>f a σ
 | _=>.none
@[simp] theorem bok_ok {α β:Type}(a:α)(σ:H)(f:α→H→X β):bok (some (.ok a,σ)) f=f a σ:=rfl
theorem Zod {α β:Type}{x:X α}{f:α→H→X β}{r:R β×H}(h:bok x f=some r):∃a σ,x=some (.ok a,σ)∧f a σ=some r:=by
 cases x with
 | none=>exact nn h
 | some p=>
  refine byC fun hX=>?_;obtain ⟨q,σ⟩:=p;refine hX ?_;clear hX
  cases q with
  | ok a=>exact ⟨a,σ,rfl,h⟩
  | exc c=>exact nn h
noncomputable def okX {α:Type}(a:Option α)(σ:H):X α:=a.map fun v=>(.ok v,σ)
@[simp] theorem okX_some {α:Type}(a:α)(σ:H):okX (some a) σ=some (.ok a,σ):=rfl
@[simp] theorem okX_none {α:Type}(σ:H):okX (.none:Option α) σ=.none:=rfl
noncomputable def okH {α:Type}(a:Option (α×H)):X α:=a.map fun v=>(.ok v.1,v.2)
@[simp] theorem okH_some {α:Type}(a:α)(σ:H):okH (some (a,σ))=some (.ok a,σ):=rfl
@[simp] theorem okH_none {α:Type}:okH (.none:Option (α×H))=.none:=rfl
noncomputable def toD:Nat→H→V→Option PyData
 | 0,_,_=>.none
 | f+1,σ,v=>match v with
  | .none=>some .none
  | .bool b=>some (.bool b)
  | .int i=>some (.int i)
  | .str s=>if PyData.strOk s then some (.str s) else .none
  | .tup l=>(l.mapM (toD f σ)).map .tuple
  | .obj n=>match σ[n]? with
   | some (.list l)=>(l.mapM (toD f σ)).map .list
   | _=>.none
  | .ty _=>.none
  | .frz _=>.none
noncomputable def eqV (σ:H)(a b:V):Option Bool :=
 match toD 6 σ a,toD 6 σ b with
 | some x,some y=>some (PyData.eqv x y)
 | _,_=>.none
noncomputable def ltT:List V→List V→Option Bool
 | [],[]=>some false
 | [],_::_=>some true
 | _::_,[]=>some false
 | .int a::r,.int b::s=>if a=b then ltT r s else some (decide (a<b))
 | _,_=>.none
noncomputable def Uq:V→Option Bool
 | .bool b=>some b
 | .none=>some false
 | _=>.none
noncomputable def Zty:Nat:=2^21
noncomputable def Big (a:Int):Prop:=a.natAbs<2^Zty
noncomputable def mulOK (a b:Int):Prop:=a.natAbs<2^64∨b.natAbs<2^64∨(Big a∧Big b)
noncomputable def Zl:Nat:=1000000
noncomputable def items (σ:H):V→Option (List V)
 | .tup l=>some l
 | .frz l=>some (l.map .int)
 | .obj n=>match σ[n]? with
  | some (.list l)=>some l
  | _=>.none
 | _=>.none
noncomputable def Yg (σ:H):V→Option (List V)
 | .frz l=>some (l.map .int)
 | .obj n=>match σ[n]? with
  | some (.list l)=>some l
  | _=>.none
 | _=>.none
open Classical in
noncomputable def Yu (σ:H)(l:List V):Option (V×H):=if l.length≤Zl then some (.obj σ.length,σ++[.list l]) else .none
noncomputable def J0:V→Option Int
 | .int i=>some i
 | _=>.none
noncomputable def Zcn:V→Option (List V)
 | .tup l=>some l
 | _=>.none
theorem Y9 {v:V}{i:Int}(h:J0 v=some i):v=.int i:=by
 cases v with
 | int j=>obtain rfl:=Option.some.inj h;rfl
 | _=>exact nn h
theorem Zbg {v:V}{l:List V}(h:Zcn v=some l):v=.tup l:=by
 cases v with
 | tup j=>obtain rfl:=Option.some.inj h;rfl
 | _=>exact nn h
noncomputable def Zbh:List V→Option V
 | []=>.none
 | x::r=>match r with
  | []=>some x
  | _::_=>.none
theorem Zau {l:List V}{x:V}(h:Zbh l=some x):l=[x]:=by
 cases l with
 | nil=>exact nn h
 | cons a r=>cases r with
  | nil=>obtain rfl:=Option.some.inj h;rfl
  | cons _ _=>exact nn h
noncomputable def Zhx:List V→Option (V×V)
 | []=>.none
 | x::r=>(Zbh r).map fun y=>(x,y)
theorem Zf9 {l:List V}{p:V×V}(h:Zhx l=some p):l=[p.1,p.2]:=by
 cases l with
 | nil=>exact nn h
 | cons a r=>
  refine byC fun hX=>?_;obtain ⟨y,hy,rfl⟩:=Option.map_eq_some_iff.mp h;refine hX ?_;clear hX
  rw[Zau hy]
open Classical in
noncomputable def Q6 (op:Bop)(x y:Int):Option Int :=
 match op with
 | .add=>some (x+y)
 | .sub=>some (x-y)
 | .mul=>if mulOK x y then some (x*y) else .none
 | .fdiv=>if y≠0∧y.natAbs<2^256 then some (x.fdiv y) else .none
 | .mod=>if y≠0 then some (x.fmod y) else .none
 | .pow=>if 0≤y∧y≤256∧x.natAbs<2^64 then some (x^y.toNat) else .none
noncomputable def Zrr (σ:H)(a b:V):Option (V×H):=(Yg σ a).bind fun x=>(Yg σ b).bind fun y=>Yu σ (x++y)
noncomputable def Zkf (σ:H)(a b:V):Option (V×H):=(J0 b).bind fun k=>(Yg σ a).bind fun l=>if l.length=1∧(k=0∨k=1) then Yu σ (if k=0 then [] else l) else .none
noncomputable def J1 (op:Bop)(a b:V)(σ:H):Option (V×H) :=
 match a with
 | .int x=>(J0 b).bind fun y=>(Q6 op x y).map fun z=>(.int z,σ)
 | .obj n=>if op=.add then Zrr σ (.obj n) b else if op=.mul then Zkf σ (.obj n) b else .none
 | _=>.none
noncomputable def Ziz:V→Option Bool
 | .none=>some true
 | .ty _=>.none
 | _=>some false
noncomputable def Zi0 (c:Bool):V→Option Bool
 | .bool d=>some (d == c)
 | .int _=>some false
 | .none=>some false
 | _=>.none
noncomputable def isV (a b:V):Option Bool :=
 match b with
 | .none=>Ziz a
 | .bool c=>Zi0 c a
 | _=>.none
noncomputable def inV (σ:H)(x:V)(l:List V):Option Bool :=
 match l.mapM (toD 6 σ),toD 6 σ x with
 | some ds,some d=>some (ds.any fun y=>PyData.eqv y d)
 | _,_=>.none
noncomputable def ltV (a b:V):Option Bool :=
 match a with
 | .int x=>(J0 b).map fun y=>decide (x<y)
 | .tup x=>(Zcn b).bind (ltT x)
 | _=>.none
noncomputable def leV (a b:V):Option Bool:=(J0 a).bind fun x=>(J0 b).map fun y=>decide (x≤y)
noncomputable def Z9 (op:Cop)(a b:V)(σ:H):Option Bool :=
 match op with
 | .eq=>eqV σ a b
 | .ne=>(eqV σ a b).map (!·)
 | .lt=>ltV a b
 | .gt=>ltV b a
 | .le=>leV a b
 | .ge=>leV b a
 | .is=>isV a b
 | .isnot=>(isV a b).map (!·)
 | .mem=>(items σ b).bind (inV σ a)
 | .nmem=>((items σ b).bind (inV σ a)).map (!·)
noncomputable def Zco (i:Int)(n:Nat):Option Nat :=
 if 0≤i then (if i<n then some i.toNat else .none) else (if 0≤i+n then some (i+n).toNat else .none)
noncomputable def Yo (σ:H)(a i:V):Option V:=(J0 i).bind fun k=>(items σ a).bind fun l=>(Zco k l.length).bind fun j=>l[j]?
noncomputable def Z5 (i:Int)(n:Nat):Nat:=if i<0 then (i+n).toNat else min i.toNat n
noncomputable def evens {α:Type}:List α→List α
 | []=>[]
 | [x]=>[x]
 | x::_::r=>x::evens r
noncomputable def Qu:V→Option (Option Int)
 | .none=>some .none
 | .int i=>some (some i)
 | _=>.none
noncomputable def loN (b:Option Int)(n:Nat):Nat:=b.elim 0 fun i=>Z5 i n
noncomputable def hiN (b:Option Int)(n:Nat):Nat:=b.elim n fun i=>Z5 i n
noncomputable def Xo (l:List V)(lo hi st:V):Option (List V) :=
 (Qu lo).bind fun a=>(Qu hi).bind fun b=>(Qu st).bind fun c=>
  if c=.none then some ((l.take (hiN b l.length)).drop (loN a l.length))
  else if c=some 2∧b=.none∧a≠.none then some (evens (l.drop (loN a l.length))) else .none
noncomputable def Wg (σ:H)(a lo hi st:V):Option (V×H):=(Yg σ a).bind fun l=>(Xo l lo hi st).bind (Yu σ)
noncomputable def Ue:List V→Option (List Int)
 | []=>some []
 | .int i::r=>(Ue r).map (i::·)
 | _=>.none
structure T3 where
 a:Int
 b:Int
 c:Int
 deriving DecidableEq,Inhabited
noncomputable def T3.v (x:T3):V:=.tup [.int x.a,.int x.b,.int x.c]
noncomputable def T3.le (x y:T3):Bool:=decide (x.a<y.a)||(decide (x.a=y.a)&&(decide (x.b<y.b)||(decide (x.b=y.b)&&decide (x.c≤y.c))))
noncomputable def Ztz:List V→Option (V×V×V)
 | []=>.none
 | x::r=>(Zhx r).map fun p=>(x,p.1,p.2)
noncomputable def Zoe (v:V):Option T3:=(Zcn v).bind fun l=>(Ztz l).bind fun p=>(J0 p.1).bind fun a=>(J0 p.2.1).bind fun b=>(J0 p.2.2).map fun c=>⟨a,b,c⟩
noncomputable def t3s:List V→Option (List T3)
 | []=>some []
 | v::r=>(Zoe v).bind fun t=>(t3s r).map (t::·)
noncomputable def Q7 (l:List V):Option (List V):=(Ue l).elim ((t3s l).map fun ts=>(ts.mergeSort T3.le).map T3.v) fun is=>some ((is.mergeSort (fun a b=>decide (a≤b))).map .int)
noncomputable def Xp (c t:Nat):Bool:=c == t||(t == 10&&(c == 11||c == 12||c == 13))
noncomputable def Zt0 (σ:H)(v:V)(t:Nat):Option Bool:=match v with
 | .int _=>if t=0 then some true else if t=1 then some false else .none
 | .tup _=>if t=2 then some true else .none
 | .obj n=>(Yg σ (.obj n)).bind fun u_=>if t=3 then some true else .none
 | _=>.none
noncomputable def Wh:List Int→Int→Int
 | [],m=>m
 | x::r,m=>Wh r (if m<x then x else m)
noncomputable def Wi:List Int→Int→Int
 | [],m=>m
 | x::r,m=>Wi r (if x<m then x else m)
noncomputable def Zcp (f:List Int→Int→Int)(σ:H)(as:List V):Option (V×H):=(Zbh as).bind fun a=>((Yg σ a).bind Ue).bind fun l=>match l with
 | []=>.none
 | x::r=>some (.int (f r x),σ)
noncomputable def Zrs (f:Int→Int→Int)(σ:H)(as:List V):Option (V×H):=(Zhx as).bind fun p=>(J0 p.1).bind fun x=>(J0 p.2).map fun y=>(.int (f x y),σ)
noncomputable def Zw5 (σ:H):V→Option (V×H)
 | .bool x=>some (.int (if x then 1 else 0),σ)
 | .int x=>some (.int x,σ)
 | _=>.none
noncomputable def Zt1:V→Option Nat
 | .ty t=>some t
 | _=>.none
noncomputable def Wa (b:Blt)(as:List V)(σ:H):Option (V×H) :=
 match b with
 | .len=>(Zbh as).bind fun v=>(items σ v).map fun l=>(.int l.length,σ)
 | .max=>if as.length=1 then Zcp Wh σ as else Zrs (fun x y=>if x<y then y else x) σ as
 | .min=>if as.length=1 then Zcp Wi σ as else Zrs (fun x y=>if y<x then y else x) σ as
 | .sorted=>(Zbh as).bind fun v=>((Yg σ v).bind Q7).bind (Yu σ)
 | .int=>(Zbh as).bind (Zw5 σ)
 | .list=>(Zbh as).bind fun v=>(Yg σ v).bind (Yu σ)
 | .sum=>(Zbh as).bind fun v=>((Yg σ v).bind Ue).map fun l=>(.int l.sum,σ)
 | .isinstance=>(Zhx as).bind fun p=>(Zt1 p.2).bind fun t=>(Zt0 σ p.1 t).map fun r=>(.bool r,σ)
noncomputable def Yi (σ:H)(n:Nat)(o:O):H:=σ.set n o
noncomputable def X9:V→Option Nat
 | .obj n=>some n
 | _=>.none
noncomputable def Zlj (σ:H)(n:Nat)(l:List V)(as:List V):Option (V×H):=(Zbh as).bind fun x=>if l.length<Zl then some (.none,Yi σ n (.list (l++[x]))) else .none
noncomputable def Zof (σ:H)(n:Nat)(l:List V)(as:List V):Option (V×H):=if as=[] then l.getLast?.map fun x=>(x,Yi σ n (.list l.dropLast)) else .none
noncomputable def W3 (m:Mth)(o:V)(as:List V)(σ:H):Option (V×H):=(X9 o).bind fun n=>(Yg σ o).bind fun l=>match m with
 | .append=>Zlj σ n l as
 | .pop=>Zof σ n l as
noncomputable def Zds (σ:H):V→Option (Nat×List (Nat×V))
 | .obj n=>match σ[n]? with
  | some (.inst _ d)=>match σ[d]? with
   | some (.ns l)=>some (d,l)
   | _=>.none
  | _=>.none
 | _=>.none
noncomputable def V.isNone:V→Bool
 | .none=>true
 | _=>false
noncomputable def Zav:List (Nat×V)→Nat→V→List (Nat×V)
 | [],a,v=>[(a,v)]
 | (b,w)::r,a,v=>if b=a then (b,v)::r else (b,w)::Zav r a v
inductive Mode where | pure | fresh | raw
 deriving DecidableEq
structure Fn where
 ps:List Nat
 size:Nat
 body:Ss
 mode:Mode
structure Pg where
 fn:Nat→Option Fn
 mt:Nat→Nat→Option Nat
 init:Nat→Option Nat
noncomputable def Xq (pg:Pg)(σ:H):V→Nat→Option Nat
 | .obj n,m=>match σ[n]? with
  | some (.inst c d)=>match σ[d]? with
   | some (.ns _)=>pg.mt c m
   | _=>.none
  | _=>.none
 | _,_=>.none
mutual
noncomputable def below (n:Nat):V→Bool
 | .obj m=>decide (m<n)
 | .tup l=>belows n l
 | _=>true
noncomputable def belows (n:Nat):List V→Bool
 | []=>true
 | v::r=>below n v&&belows n r
end
open Classical in
noncomputable def gcP (σ:H)(r:R V)(σ':H):X V :=
 match r with
 | .ok v=>if σ'.take σ.length=σ∧below σ.length v=true then some (.ok v,σ) else .none
 | .exc c=>if σ'.take σ.length=σ then some (.exc c,σ) else .none
open Classical in
noncomputable def gcF (σ:H)(r:R V)(σ':H):X V :=
 match r with
 | .ok v=>(X9 v).bind fun m=>if σ'.take σ.length=σ then (if m<σ.length then some (.ok (.obj m),σ) else (Yg σ' (.obj m)).bind fun l=>if belows σ.length l=true then some (.ok (.obj σ.length),σ++[.list l]) else .none) else .none
 | .exc _=>.none
noncomputable def gc (m:Mode)(σ:H)(x:X V):X V :=
 match m with
 | .raw=>x
 | .pure=>x.bind fun p=>gcP σ p.1 p.2
 | .fresh=>x.bind fun p=>gcF σ p.1 p.2
inductive Fl where
 | next
 | brk
 | ret (v:V)
 | exc (c:Nat)
abbrev Y:=Option (Fl×L×H)
noncomputable def Zb9 {α:Type}(x:X α)(ℓ:L)(f:α→H→Y):Y :=
 match x with
 | .none=>.none
 | some (.ok a,σ)=>f a σ
 | some (.exc c,σ)=>some (.exc c,ℓ,σ)
@[simp] theorem bndY_none {α:Type}(ℓ:L)(f:α→H→Y):Zb9 (.none:X α) ℓ f=.none:=rfl
@[simp] theorem bndY_ok {α:Type}(a:α)(σ:H)(ℓ:L)(f:α→H→Y):Zb9 (some (.ok a,σ)) ℓ f=f a σ:=rfl
@[simp] theorem bndY_exc {α:Type}(c:Nat)(σ:H)(ℓ:L)(f:α→H→Y):Zb9 (some (.exc c,σ):X α) ℓ f=some (.exc c,ℓ,σ):=rfl
noncomputable def Qe (x:Y)(f:L→H→Y):Y :=
 match x with
 | some (.next,ℓ,σ)=>f ℓ σ
 | r=>r
set_option tactic.hygienic true in
@[simp] theorem seqY_next (ℓ:L)(σ:H)(f:L→H→Y):Qe (some (.next,ℓ,σ)) f=f ℓ σ:=rfl
@[simp] theorem seqY_ret (v:V)(ℓ:L)(σ:H)(f:L→H→Y):Qe (some (.ret v,ℓ,σ)) f=some (.ret v,ℓ,σ):=rfl
@[simp] theorem seqY_brk (ℓ:L)(σ:H)(f:L→H→Y):Qe (some (.brk,ℓ,σ)) f=some (.brk,ℓ,σ):=rfl
@[simp] theorem seqY_exc (c:Nat)(ℓ:L)(σ:H)(f:L→H→Y):Qe (some (.exc c,ℓ,σ)) f=some (.exc c,ℓ,σ):=rfl
@[simp] theorem seqY_none (f:L→H→Y):Qe .none f=.none:=rfl
noncomputable def Qh (ℓ:L)(i:Nat)(v:V):Option L:=if i<ℓ.length then some (ℓ.set i (some v)) else .none
noncomputable def Uf:List Nat→List V→L→Option L
 | [],[],ℓ=>some ℓ
 | i::is,v::vs,ℓ=>(Qh ℓ i v).bind (Uf is vs)
 | _,_,_=>.none
noncomputable def Q8 (t:Tg)(v:V)(ℓ:L):Option L :=
 match t with
 | .one i=>Qh ℓ i v
 | .three i j k=>(Zcn v).bind fun vs=>Uf [i,j,k] vs ℓ
structure Src where
 vs:List V
 keep:H→Prop
noncomputable def Zga {α:Type}(x:X α)(f:α→H→Y):Y :=
 match x with
 | some (.ok a,σ)=>f a σ
 | _=>.none
theorem Zlk {α:Type}{x:X α}{f:α→H→Y}{r:Fl×L×H}(h:Zga x f=some r):∃a σ,x=some (.ok a,σ)∧f a σ=some r:=by
 cases x with
 | none=>exact nn h
 | some p=>
  refine byC fun hX=>?_;obtain ⟨q,σ⟩:=p;refine hX ?_;clear hX
  cases q with
  | ok a=>exact ⟨a,σ,rfl,h⟩
  | exc c=>exact nn h
noncomputable def Zcq (y:Y)(k:L→H→Y):Y :=
 match y with
 | some (.next,ℓ,σ)=>k ℓ σ
 | some (.brk,ℓ,σ)=>some (.next,ℓ,σ)
 | some (.ret v,ℓ,σ)=>some (.ret v,ℓ,σ)
 | _=>.none
open Classical in
noncomputable def Q9 (body:L→H→X (Option V))(tg:Nat)(keep:H→Prop):List V→List V→L→H→X (List V)
 | [],acc,_,σ=>some (.ok acc,σ)
 | v::r,acc,ℓ,σ=>(Qh ℓ tg v).bind fun ℓ'=>bok (body ℓ' σ) fun y σ'=>if keep σ'∧acc.length<Zl then Q9 body tg keep r (acc++y.toList) ℓ' σ' else .none
open Classical in
noncomputable def Zaf (body:L→H→Y)(t:Tg)(keep:H→Prop):List V→L→H→Y
 | [],ℓ,σ=>some (.next,ℓ,σ)
 | v::r,ℓ,σ=>(Q8 t v ℓ).bind fun ℓ'=>Zcq (body ℓ' σ) fun ℓ2 σ2=>if keep σ2 then Zaf body t keep r ℓ2 σ2 else .none
noncomputable def Wx (test:L→H→X V)(body:L→H→Y):Nat→L→H→Y
 | 0,_,_=>.none
 | n+1,ℓ,σ=>Zga (test ℓ σ) fun v σ1=>(Uq v).bind fun b=>if b then Zcq (body ℓ σ1) fun ℓ2 σ2=>Wx test body n ℓ2 σ2 else some (.next,ℓ,σ1)
noncomputable def Qi:Nat:=2^16
structure Cl where
 pg:Pg
 call:Nat→List V→H→X V
noncomputable def Zll (a b:Int):List V:=(List.range (b-a).toNat).map fun k=>V.int (a+(k:Nat))
mutual
noncomputable def Zg (C:Cl):Ex→L→H→X V
 | .lit v,_,σ=>some (.ok v,σ)
 | .var i,ℓ,σ=>okX (ℓ[i]?.join) σ
 | .ty t,_,σ=>some (.ok (.ty t),σ)
 | .bin op a b,ℓ,σ=>bok (Zg C a ℓ σ) fun x σ1=>bok (Zg C b ℓ σ1) fun y σ2=>okH (J1 op x y σ2)
 | .neg a,ℓ,σ=>bok (Zg C a ℓ σ) fun x σ1=>match x with
  | .int i=>some (.ok (.int (-i)),σ1)
  | _=>.none
 | .not a,ℓ,σ=>bok (Zg C a ℓ σ) fun x σ1=>okX ((Uq x).map fun b=>V.bool (!b)) σ1
 | .and a b,ℓ,σ=>bok (Zg C a ℓ σ) fun x σ1=>match Uq x with
  | some true=>Zg C b ℓ σ1
  | some false=>some (.ok x,σ1)
  | .none=>.none
 | .or a b,ℓ,σ=>bok (Zg C a ℓ σ) fun x σ1=>match Uq x with
  | some true=>some (.ok x,σ1)
  | some false=>Zg C b ℓ σ1
  | .none=>.none
 | .cmp a r,ℓ,σ=>bok (Zg C a ℓ σ) fun x σ1=>Zag C x r ℓ σ1
 | .ife c a b,ℓ,σ=>bok (Zg C c ℓ σ) fun x σ1=>match Uq x with
  | some true=>Zg C a ℓ σ1
  | some false=>Zg C b ℓ σ1
  | .none=>.none
 | .tup es,ℓ,σ=>bok (Yy C es ℓ σ) fun vs σ1=>if vs.length≤Zl then some (.ok (.tup vs),σ1) else .none
 | .lst es,ℓ,σ=>bok (Yy C es ℓ σ) fun vs σ1=>okH (Yu σ1 vs)
 | .idx a i,ℓ,σ=>bok (Zg C a ℓ σ) fun x σ1=>bok (Zg C i ℓ σ1) fun y σ2=>okX (Yo σ2 x y) σ2
 | .slc a lo hi st,ℓ,σ=>bok (Zg C a ℓ σ) fun x σ1=>bok (Xr C lo ℓ σ1) fun l σ2=>bok (Xr C hi ℓ σ2) fun u σ3=>bok (Xr C st ℓ σ3) fun s σ4 =>
   okH (Wg σ4 x l u s)
 | .comp elt tg it ifs,ℓ,σ=>bok (Wy C it ℓ σ) fun src σ1 =>
   bok (Q9 (fun ℓ' σ'=>bok (Ji C ifs ℓ' σ') fun b σ2=>if b then bok (Zg C elt ℓ' σ2) fun v σ3=>some (.ok (some v),σ3) else some (.ok .none,σ2)) tg src.keep src.vs [] ℓ σ1) fun vs σ2=>
    some (.ok (.obj σ2.length),σ2++[.list vs])
 | .call f as,ℓ,σ=>bok (Yy C as ℓ σ) fun vs σ1=>C.call f vs σ1
 | .blt b as,ℓ,σ=>bok (Yy C as ℓ σ) fun vs σ1=>okH (Wa b vs σ1)
 | .mth m o as,ℓ,σ=>bok (Zg C o ℓ σ) fun x σ1=>(Yg σ1 x).bind fun u_=>bok (Yy C as ℓ σ1) fun vs σ2=>okH (W3 m x vs σ2)
 | .ucall m o as,ℓ,σ=>bok (Zg C o ℓ σ) fun x σ1=>(Xq C.pg σ1 x m).bind fun f=>bok (Yy C as ℓ σ1) fun vs σ2=>C.call f (x::vs) σ2
 | .attr o a,ℓ,σ=>bok (Zg C o ℓ σ) fun x σ1=>okX ((Zds σ1 x).bind fun p=>p.2.lookup a) σ1
 | .new c _,_,σ=>(C.pg.init c).bind fun f=>bok (C.call f [.obj (σ.length+1)] (σ++[.ns []]++[.inst c σ.length])) fun r σ2=>if r.isNone then some (.ok (.obj (σ.length+1)),σ2) else .none
noncomputable def Yy (C:Cl):Es→L→H→X (List V)
 | .nil,_,σ=>some (.ok [],σ)
 | .cons e es,ℓ,σ=>bok (Zg C e ℓ σ) fun v σ1=>bok (Yy C es ℓ σ1) fun vs σ2=>some (.ok (v::vs),σ2)
noncomputable def Zag (C:Cl)(x:V):Ch→L→H→X V
 | .one op b,ℓ,σ=>bok (Zg C b ℓ σ) fun y σ1=>okX ((Z9 op x y σ1).map V.bool) σ1
 | .more op b r,ℓ,σ=>bok (Zg C b ℓ σ) fun y σ1=>match Z9 op x y σ1 with
  | some true=>Zag C y r ℓ σ1
  | some false=>some (.ok (.bool false),σ1)
  | .none=>.none
noncomputable def Xr (C:Cl):Oe→L→H→X V
 | .no,_,σ=>some (.ok .none,σ)
 | .yes e,ℓ,σ=>Zg C e ℓ σ
noncomputable def Wy (C:Cl):It→L→H→X Src
 | .ex e,ℓ,σ=>bok (Zg C e ℓ σ) fun x σ1=>match x with
  | .tup l=>some (.ok ⟨l,fun u_=>True⟩,σ1)
  | .frz l=>some (.ok ⟨l.map .int,fun u_=>True⟩,σ1)
  | .obj n=>match σ1[n]? with
   | some (.list l)=>some (.ok ⟨l,fun σ'=>σ'[n]?=some (.list l)⟩,σ1)
   | _=>.none
  | _=>.none
 | .rng1 e,ℓ,σ=>bok (Zg C e ℓ σ) fun x σ1=>match x with
  | .int b=>if -Zl≤b∧b≤Zl then some (.ok ⟨Zll 0 b,fun u_=>True⟩,σ1) else .none
  | _=>.none
 | .rng2 a b,ℓ,σ=>bok (Zg C a ℓ σ) fun x σ1=>bok (Zg C b ℓ σ1) fun y σ2=>match x,y with
  | .int a,.int b=>if (-Zl≤a∧a≤Zl)∧(-Zl≤b∧b≤Zl) then some (.ok ⟨Zll a b,fun u_=>True⟩,σ2) else .none
  | _,_=>.none
noncomputable def Ji (C:Cl):Es→L→H→X Bool
 | .nil,_,σ=>some (.ok true,σ)
 | .cons e es,ℓ,σ=>bok (Zg C e ℓ σ) fun v σ1=>match Uq v with
  | some true=>Ji C es ℓ σ1
  | some false=>some (.ok false,σ1)
  | .none=>.none
end
noncomputable def noX {α:Type}(x:X α):X α:=bok x fun a σ=>some (.ok a,σ)
noncomputable def Wr (C:Cl):Ex→L→H→X V
 | .call f as,ℓ,σ=>Zg C (.call f as) ℓ σ
 | e,ℓ,σ=>noX (Zg C e ℓ σ)
noncomputable def Wj (C:Cl):Es→L→H→X (List V)
 | .nil,_,σ=>some (.ok [],σ)
 | .cons e es,ℓ,σ=>bnd (Wr C e ℓ σ) fun v σ1=>bnd (Wj C es ℓ σ1) fun vs σ2=>some (.ok (v::vs),σ2)
noncomputable def Jm (C:Cl):Ex→L→H→X V
 | .call f as,ℓ,σ=>bnd (Wj C as ℓ σ) fun vs σ1=>C.call f vs σ1
 | .ucall m o as,ℓ,σ=>Zg C (.ucall m o as) ℓ σ
 | e,ℓ,σ=>noX (Zg C e ℓ σ)
noncomputable def Zi1 (y:Y):Y :=
 match y with
 | some (.exc _,_,_)=>.none
 | r=>r
noncomputable def Zcr (y:Y)(k:Nat)(f:L→H→Y):Y :=
 match y with
 | some (.exc c,ℓ,σ)=>if Xp c k then Zi1 (f ℓ σ) else .none
 | r=>r
set_option tactic.hygienic true in
mutual
noncomputable def exec (C:Cl):St→L→H→Y
 | .expr e,ℓ,σ=>Zb9 (Jm C e ℓ σ) ℓ fun u_ σ1=>some (.next,ℓ,σ1)
 | .asg t e,ℓ,σ=>Zb9 (Jm C e ℓ σ) ℓ fun v σ1=>(Q8 t v ℓ).map fun ℓ'=>(Fl.next,ℓ',σ1)
 | .aset o a e,ℓ,σ=>Zb9 (Jm C e ℓ σ) ℓ fun v σ1=>Zga (Zg C o ℓ σ1) fun x σ2=>(Zds σ2 x).map fun p=>(Fl.next,ℓ,Yi σ2 p.1 (.ns (Zav p.2 a v)))
 | .iset _ _ _,_,_=>.none
 | .ret e,ℓ,σ=>Zb9 (Jm C e ℓ σ) ℓ fun v σ1=>some (.ret v,ℓ,σ1)
 | .ife c a b,ℓ,σ=>Zga (Zg C c ℓ σ) fun v σ1=>match Uq v with
  | some true=>execs C a ℓ σ1
  | some false=>execs C b ℓ σ1
  | .none=>.none
 | .for_ t it b,ℓ,σ=>Zga (Wy C it ℓ σ) fun src σ1=>Zaf (execs C b) t src.keep src.vs ℓ σ1
 | .whl c b,ℓ,σ=>Wx (Zg C c) (execs C b) Qi ℓ σ
 | .brk,ℓ,σ=>some (.brk,ℓ,σ)
 | .pass,ℓ,σ=>some (.next,ℓ,σ)
 | .raise c,ℓ,σ=>some (.exc c,ℓ,σ)
 | .try_ b k h,ℓ,σ=>Zcr (execs C b ℓ σ) k fun ℓ1 σ1=>execs C h ℓ1 σ1
noncomputable def execs (C:Cl):Ss→L→H→Y
 | .nil,ℓ,σ=>some (.next,ℓ,σ)
 | .cons s ss,ℓ,σ=>Qe (exec C s ℓ σ) fun ℓ1 σ1=>execs C ss ℓ1 σ1
end
theorem Yb {α β:Type}{x:X α}{f:α→H→X β}{r:R β×H}{P:Prop}(h:bok x f=some r)(k:∀a σ,x=some (.ok a,σ)→f a σ=some r→P):P :=
 let ⟨a,σ,h1,h2⟩:=Zod h;k a σ h1 h2
theorem Ze4 {α:Type}{x:X α}{f:α→H→Y}{r:Fl×L×H}{P:Prop}(h:Zga x f=some r)(k:∀a σ,x=some (.ok a,σ)→f a σ=some r→P):P :=
 let ⟨a,σ,h1,h2⟩:=Zlk h;k a σ h1 h2
noncomputable def Xs (y:Y):X V :=
 match y with
 | some (.ret v,_,σ)=>some (.ok v,σ)
 | some (.next,_,σ)=>some (.ok .none,σ)
 | some (.exc c,_,σ)=>some (.exc c,σ)
 | _=>.none
@[simp] theorem retX_ret (v:V)(ℓ:L)(σ:H):Xs (some (.ret v,ℓ,σ))=some (.ok v,σ):=rfl
set_option tactic.hygienic true in
@[simp] theorem retX_next (ℓ:L)(σ:H):Xs (some (.next,ℓ,σ))=some (.ok .none,σ):=rfl
@[simp] theorem retX_exc (c:Nat)(ℓ:L)(σ:H):Xs (some (.exc c,ℓ,σ))=some (.exc c,σ):=rfl
@[simp] theorem retX_none:Xs .none=.none:=rfl
noncomputable def Ut (F:Fn)(as:List V):Option L:=Uf F.ps as (List.replicate F.size .none)
noncomputable def Zh (pg:Pg):Nat→Nat→List V→H→X V
 | 0,_,_,_=>.none
 | d+1,f,as,σ=>(pg.fn f).bind fun F=>(Ut F as).bind fun ℓ=>gc F.mode σ (Xs (execs ⟨pg,Zh pg d⟩ F.body ℓ σ))
structure Tabs where
 fns:List (Str×Nat)
 tys:List (Str×Nat)
 blts:List (Str×Blt)
 cls:List (Str×Nat)
 meths:List (Str×Nat)
 attrs:List (Str×Nat)
 excs:List (Str×Nat)
 loops:Bool
noncomputable def Zlm (T:Tabs):Tabs:=⟨T.fns,T.tys,T.blts,T.cls,T.meths,T.attrs,[],T.loops⟩
noncomputable def Zw6 : Str := "isinstance"
noncomputable def Zw7 : Str := "int"
noncomputable def quiet (T:Tabs):Tabs:=⟨[],T.tys,[(Zw6,.isinstance),(Zw7,.int)].filter (fun p=>T.blts.lookup p.1 == some p.2),[],[],[],T.excs,false⟩
structure CEnv where
 names:List (Str×NameKind)
 slots:List (Str×Nat)
 next:Nat
noncomputable def Zln:Const→Option V
 | .none=>some .none
 | .bool b=>some (.bool b)
 | .int i=>some (.int i)
 | .str s=>some (.str s)
 | _=>.none
noncomputable def cOp:Operator→Option Bop
 | .Add=>some .add
 | .Sub=>some .sub
 | .Mult=>some .mul
 | .FloorDiv=>some .fdiv
 | .Mod=>some .mod
 | .Pow=>some .pow
 | _=>.none
noncomputable def Zlo:CmpOp→Cop
 | .Eq=>.eq | .NotEq=>.ne | .Lt=>.lt | .LtE=>.le | .Gt=>.gt | .GtE=>.ge | .Is=>.is | .IsNot=>.isnot | .In=>.mem | .NotIn=>.nmem
noncomputable def Um (c:CEnv)(x:Str):Option Nat :=
 match c.names.lookup x with
 | some .local | some .cell => if x == ("__debug__" : Str) then .none else c.slots.lookup x
 | _=>.none
noncomputable def Y5 (c : CEnv) (x : Str) : Bool := c.names.lookup x == some .globalImplicit && !(x == ("__debug__" : Str))
noncomputable def Ja (c:CEnv)(sc:Scope):List (Str×NameKind) :=
 sc.names.map fun (n,k)=>if k == .free&&c.names.lookup n == some .cell then (n,.cell) else (n,k)
noncomputable def Zbi (c:CEnv)(sc:Scope):List (Str×Nat) :=
 ((sc.names.filter fun p=>p.2 == .local).zipIdx.map fun p=>(p.1.1,c.next+p.2)) ++
 (sc.names.filterMap fun p=>if p.2 == .free&&c.names.lookup p.1 == some .cell then (c.slots.lookup p.1).map fun j=>(p.1,j) else .none)
noncomputable def Jb (c:CEnv)(sc:Scope):CEnv:=⟨Ja c sc,Zbi c sc,c.next+(sc.names.filter fun p=>p.2 == .local).length⟩
noncomputable def Ze5 (c:CEnv)(sc:Scope):Bool :=
 (sc.kind == .function) && !sc.isGenerator && !sc.isCoroutine&&decide (sc.names.map (·.1)).Nodup&&sc.names.all (fun p=>p.2 != .cell&&(p.2 != .free||c.names.lookup p.1 == some .cell))
noncomputable def Zhy (op:BoolOp)(a b:Ex):Ex:=match op with | .And=>.and a b | .Or=>.or a b
noncomputable def Zog : Str := "append"
noncomputable def Zw8 : Str := "pop"
noncomputable def Wk : Str := "range"
noncomputable def Zaa:(e:Expr)→Option { x:Str // ∃p,e=.Name x p }
 | .Name x p=>some ⟨x,p,rfl⟩
 | _=>.none
noncomputable def Zb0 (names:List (Str×NameKind)):List (Str×NameKind):=names.filter fun p=>p.2 == .local||p.2 == .cell
noncomputable def Yr (names:List (Str×NameKind)):List (Str×Nat):=(Zb0 names).zipIdx.map fun p=>(p.1.1,p.2)
noncomputable def fnC (sc:Scope):CEnv:=⟨sc.names,Yr sc.names,(Zb0 sc.names).length⟩
noncomputable def fnNames : List (Str × Nat) := [(Str.ofString "meet", 0), (Str.ofString "need_whole", 1), (Str.ofString "need_span", 2), (Str.ofString "stretch_of", 3), (Str.ofString "gaps_of", 4), (Str.ofString "clumps_of", 5), (Str.ofString "deepest_of", 6), (Str.ofString "height_of", 7), (Str.ofString "made", 8), (Str.ofString "balanced", 9), (Str.ofString "with_one", 10), (Str.ofString "least_of", 11), (Str.ofString "without", 12), (Str.ofString "has", 13), (Str.ofString "walked", 14), (Str.ofString "asked", 15), (Str.ofString "_law_at", 16), (Str.ofString "_law_made", 17), (Str.ofString "_wall", 18), (Str.ofString "_law_thing", 19), (Str.ofString "_law_number", 20), (Str.ofString "_law_good", 21), (Str.ofString "_law_called", 22), (Str.ofString "_law_named", 23), (Str.ofString "_law_word", 24), (Str.ofString "_law_is_int", 25), (Str.ofString "_law_tuple_is", 26), (Str.ofString "_law_list_is", 27), (Str.ofString "_law_row", 28), (Str.ofString "_law_ask", 29), (Str.ofString "_law_gaps", 30), (Str.ofString "_law_clump", 31), (Str.ofString "_law_triple", 32), (Str.ofString "_law_over", 33), (Str.ofString "_law_run", 34), (Str.ofString "_law_near", 35), (Str.ofString "_law_picked", 36), (Str.ofString "_law_big", 37), (Str.ofString "_law_deeds", 38), (Str.ofString "_law_behind", 39), (Str.ofString "_law_done", 40), (Str.ofString "_law_spots", 41), (Str.ofString "_law_box", 42), (Str.ofString "_law_under", 43), (Str.ofString "_law_stands", 44), (Str.ofString "_law_do", 45), (Str.ofString "_law_told", 46), (Str.ofString "_law_spot", 47), (Str.ofString "_law_looked", 48), (Str.ofString "_law_least", 49), (Str.ofString "_law_quick", 50), (Str.ofString "_law_parts", 51), (Str.ofString "_law_deepest", 52), (Str.ofString "_law_clumps", 53), (Str.ofString "_law_gaps_of", 54), (Str.ofString "_law_hang", 55), (Str.ofString "_law_rest", 56), (Str.ofString "_law_balanced", 57), (Str.ofString "_law_deep", 58), (Str.ofString "_law_own", 59), (Str.ofString "law", 60)]
noncomputable def methNames : List (Str × Nat) := [(Str.ofString "__init__", 0), (Str.ofString "put", 1), (Str.ofString "take", 2), (Str.ofString "keeps", 3), (Str.ofString "listed", 4), (Str.ofString "total", 5), (Str.ofString "meeting", 6), (Str.ofString "holding", 7), (Str.ofString "looked", 8), (Str.ofString "gaps", 9), (Str.ofString "clumps", 10), (Str.ofString "deepest", 11), (Str.ofString "branch", 12), (Str.ofString "height", 13), (Str.ofString "boxes", 14)]
noncomputable def tyNames : List (Str × Nat) := [(Str.ofString "int", 0), (Str.ofString "bool", 1), (Str.ofString "tuple", 2), (Str.ofString "list", 3), (Str.ofString "ValueError", 4)]
noncomputable def bltNames : List (Str × Blt) := [(Str.ofString "len", .len), (Str.ofString "max", .max), (Str.ofString "min", .min), (Str.ofString "sorted", .sorted), (Str.ofString "int", .int), (Str.ofString "list", .list), (Str.ofString "sum", .sum), (Str.ofString "isinstance", .isinstance)]
abbrev Zz (vs : List Value) : Obj := { cls := .type "tuple", data := .seq vs.toArray }
abbrev Yd (vs : List Value) (n : Nat) : Obj := { cls := .type "list", data := .seq vs.toArray n }
structure Kx where
 prog:Program
 w:World
 h0:Heap
 tyv:Nat→Value
 fna:Nat→Addr
 clv:Nat→Value
abbrev Kx.M (K:Kx):Model:=model K.prog K.w
variable {ρ ρ' ρ1:List Addr}{σ σ' σ1:H}{s s' s1:Shared}{h h':Heap}{ℓ ℓ':L}
mutual
inductive RV (K:Kx) (ρ:List Addr) (h:Heap):V→Value→Prop
 | none:RV K ρ h .none .none
 | bool (b):RV K ρ h (.bool b) (.bool b)
 | int (i t):RV K ρ h (.int i) (.int i t)
 | str (s t):RV K ρ h (.str s) (.str s t)
 | tup {l a vs}:h.get? a=some (Zz vs)→RVs K ρ h l vs→l.length≤Zl→RV K ρ h (.tup l) (.ref a)
 | obj {n a}:ρ[n]?=some a→RV K ρ h (.obj n) (.ref a)
 | ty (t):RV K ρ h (.ty t) (K.tyv t)
 | frz {l a vs n}:K.h0.get? a=some (Yd vs n)→RVs K ρ h (l.map V.int) vs→l.length≤Zl→RV K ρ h (.frz l) (.ref a)
inductive RVs (K:Kx) (ρ:List Addr) (h:Heap):List V→List Value→Prop
 | nil:RVs K ρ h [] []
 | cons {v l x vs}:RV K ρ h v x→RVs K ρ h l vs→RVs K ρ h (v::l) (x::vs)
end
noncomputable def atn (k : Nat) : Str := if k = 0 then "top" else "many"
theorem Zlp:atn 0≠atn 1:=by decide
noncomputable def OR (K:Kx)(ρ:List Addr)(h:Heap)(a:Addr):O→Prop
 | .list l=>∃vs n,h.get? a=some (Yd vs n)∧RVs K ρ h l vs∧l.length≤Zl
 | .inst c d=>∃o C ad,h.get? a=some o∧K.clv c=.ref C∧o.cls=.ref C∧(∀x,o.data≠.cls x)∧o.dict=some ad∧ρ[d]?=some ad
 | .ns l=>∃m,h.Ns1 a m∧(∀x,m x≠.none→x∈[atn 0,atn 1])∧∀k v,l.lookup k=some v→k<2∧∃cv,m (atn k)=some cv∧RV K ρ h v cv
structure HR (K:Kx)(ρ:List Addr)(σ:H)(h:Heap):Prop where
 keep:∀b o,K.h0.get? b=some o→h.get? b=some o
 len:ρ.length=σ.length
 nd:ρ.Nodup
 new:∀a∈ρ,K.h0.get? a=none
 obj:∀(n:Nat) o a,σ[n]?=some o→ρ[n]?=some a→OR K ρ h a o
noncomputable def dy (o:Obj):Prop:=∃es ep,o.data=.dict es ep
theorem nfT {vs:List Value}:¬ dy (Zz vs):=fun ⟨_,_,e⟩=>by cases e
theorem nfL {vs:List Value}{n:Nat}:¬ dy (Yd vs n):=fun ⟨_,_,e⟩=>by cases e
open Classical in
noncomputable def nrm (o:Obj):Obj:=if dy o then { o with slots:=#[] } else o
noncomputable def ng (h:Heap)(b:Addr):Option Obj:=(h.get? b).map nrm
theorem Zi2 (o:Obj):(nrm o).cls=o.cls:=by unfold nrm;split <;> rfl
theorem Zcs (o:Obj):(nrm o).data=o.data:=by unfold nrm;split <;> rfl
theorem Zgb (o:Obj):(nrm o).dict=o.dict:=by unfold nrm;split <;> rfl
theorem Zlq {o:Obj}(h:¬ dy o):nrm o=o:=if_neg h
theorem dy_nrm {o:Obj}:dy (nrm o)↔dy o:=by unfold dy;rw[Zcs]
theorem J7 {b:Addr}{o:Obj}(e:h.get? b=some o):ng h b=some (nrm o):=by unfold ng;rw[e];rfl
theorem Zaw {b:Addr}{o:Obj}(e:ng h b=some o):∃o',h.get? b=some o'∧nrm o'=o:=Option.map_eq_some_iff.mp e
theorem ng_none {b:Addr}:ng h b=none↔h.get? b=none:=Option.map_eq_none_iff
theorem Zi3 {b:Addr}{o:Obj}(hc:¬ dy o)(e:ng h b=some (nrm o)):h.get? b=some o:=by
 refine rEA (fun o' e1 e2=>?_) (Zaw e)
 have hc':¬ dy o':=fun hd=>hc (dy_nrm.mp (by rw[← e2];exact dy_nrm.mpr hd))
 rw[Zlq hc',Zlq hc] at e2
 rw[e1,e2]
theorem Xu {b:Addr}{o:Obj}(e:ng h b=some (nrm o)):∃o',h.get? b=some o'∧o'.data=o.data∧o'.cls=o.cls∧o'.dict=o.dict:=by
 refine rEA (fun o' e1 e2=>?_) (Zaw e)
 exact ⟨o',e1,by rw[← Zcs o',e2,Zcs],by rw[← Zi2 o',e2,Zi2],by rw[← Zgb o',e2,Zgb]⟩
theorem Ws (hk:∀b o,h.get? b=some o→h'.get? b=some o){b:Addr}{o:Obj}(e:ng h b=some o):ng h' b=some o:=by
 refine rEA (fun o' e1 hO2=>?_) (Zaw e);refine eqE hO2 ?_
 exact J7 (hk _ _ e1)
theorem Uz {b:Addr}(hk:∀o,h.get? b=some o→h'.get? b=some o){o:Obj}(e:ng h b=some o):ng h' b=some o:=by
 refine rEA (fun o' e1 hO2=>?_) (Zaw e);refine eqE hO2 ?_
 exact J7 (hk _ e1)
structure Step (ρ:List Addr)(s:Shared)(ρ':List Addr)(s':Shared):Prop where
 pre:ρ <+: ρ'
 fr:∀b o,ng s.heap b=some o→b ∉ ρ→ng s'.heap b=some o
 fresh:∀a,a∈ρ'→a∈ρ∨s.heap.get? a=none
 gens:s'.gens=s.gens
 os:s'.os=s.os
theorem Step.refl (ρ:List Addr)(s:Shared):Step ρ s ρ s:=⟨List.prefix_refl _,fun u_ v_ e w_=>e,fun u_ h=>.inl h,rfl,rfl⟩
theorem Step.trans {ρ2:List Addr}{s2:Shared}(x:Step ρ s ρ1 s1)(y:Step ρ1 s1 ρ2 s2):Step ρ s ρ2 s2 where
 pre:=x.pre.trans y.pre
 fr:=fun b o e hb=>y.fr b o (x.fr b o e hb) fun h1=>by
  rcases x.fresh b h1 with h | h
  ·exact hb h
  ·rw[ng_none.mpr h] at e;exact nn e
 fresh:=fun a ha=>by
  rcases y.fresh a ha with h | h
  ·exact x.fresh a h
  ·by_cases hr:a∈ρ
   ·exact .inl hr
   ·right
    cases hg:s.heap.get? a with
    | none=>rfl
    | some o=>have:=x.fr a _ (J7 hg) hr;rw[ng_none.mpr h] at this;exact nn this
 gens:=y.gens.trans x.gens
 os:=y.os.trans x.os
theorem Step.ex (x:Step ρ s ρ' s'){b:Addr}{o:Obj}(e:s.heap.get? b=some o)(hb:b ∉ ρ)(hc:¬ dy o):s'.heap.get? b=some o:=Zi3 hc (x.fr b _ (J7 e) hb)
theorem OR.isSome {K:Kx}{a:Addr}{o:O}(x:OR K ρ h a o):∃ob,h.get? a=some ob∧∀vs,ob≠Zz vs:=by
 cases o with
 | list l => revert x; refine Jz fun vs n e u3_ => ?_; exact ⟨_, e, fun vs' h => absurd (congrArg Obj.cls h) (by show Value.type "list" ≠ Value.type "tuple"; decide)⟩
 | inst c d=>revert x;refine U7 fun ob C ad e u4_ h1 u6_=>?_;exact ⟨_,e,fun vs' h=>by rw[h] at h1;cases h1⟩
 | ns l=>revert x;refine rEA fun m hO1 u2_=>?_;revert hO1;refine Us fun ob es ep e h1 u5_=>?_;exact ⟨_,e,fun vs' h=>by rw[h] at h1;cases h1⟩
theorem HR.at_ {K:Kx}(x:HR K ρ σ h){a:Addr}(ha:a∈ρ):∃ob,h.get? a=some ob∧∀vs,ob≠Zz vs:=by
 refine rE (fun n hO1=>?_) (List.getElem_of_mem ha);obtain ⟨hn,rfl⟩:=hO1
 have hs:n<σ.length:=by rw[← x.len];exact hn
 exact (x.obj n _ _ (List.getElem?_eq_getElem hs) (List.getElem?_eq_getElem hn)).isSome
theorem Wb {α:Type}{l l':List α}(hp:l <+: l'){n:Nat}{a:α}(e:l[n]?=some a):l'[n]?=some a:=by
 revert hp;refine rE fun t hO1=>?_;refine eqE hO1 ?_
 rw[List.getElem?_append_left (List.getElem?_eq_some_iff.mp e).1];exact e
theorem RVs.ind {K:Kx}{P:List V→List Value→Prop}(h0:P [] [])(h1:∀{v l x vs},RV K ρ h v x→RVs K ρ h l vs→P l vs→P (v::l) (x::vs)){l:List V}{vs:List Value}(r:RVs K ρ h l vs):P l vs :=
 RVs.rec (motive_1:=fun u_ v_ w_=>True) (motive_2:=fun l vs u_=>P l vs) trivial (fun u_=>trivial) (fun u_ v_=>trivial) (fun u_ v_=>trivial) (fun u_ v_ w_ x_=>trivial) (fun u_=>trivial) (fun u_=>trivial) (fun u_ v_ w_ x_=>trivial) h0 (fun a r u_ i=>h1 a r i) r
noncomputable def Zi4:V→Option Bool
 | .bool b=>some b
 | _=>.none
noncomputable def Zlr:V→Option Str
 | .str b=>some b
 | _=>.none
theorem RV.intI {K:Kx}{v:V}{x:Value}(r:RV K ρ h v x){a:Int}(e:J0 v=some a):∃t,x=.int a t :=
 RV.casesOn (motive_1:=fun v x u_=>J0 v=some a→∃t,x=.int a t) r (fun e=>nn e) (fun u_ e=>nn e) (fun u_ t e=>⟨t,congrArg (fun z=>Value.int z t) (Option.some.inj e)⟩) (fun u_ v_ e=>nn e) (fun u_ v_ w_ e=>nn e) (fun u_ e=>nn e) (fun u_ e=>nn e) (fun u_ v_ w_ e=>nn e) e
theorem RV.boolI {K:Kx}{v:V}{x:Value}(r:RV K ρ h v x){a:Bool}(e:Zi4 v=some a):x=.bool a :=
 RV.casesOn (motive_1:=fun v x u_=>Zi4 v=some a→x=.bool a) r (fun e=>nn e) (fun u_ e=>congrArg Value.bool (Option.some.inj e)) (fun u_ v_ e=>nn e) (fun u_ v_ e=>nn e) (fun u_ v_ w_ e=>nn e) (fun u_ e=>nn e) (fun u_ e=>nn e) (fun u_ v_ w_ e=>nn e) e
theorem RV.noneI {K:Kx}{v:V}{x:Value}(r:RV K ρ h v x)(e:v.isNone=true):x=.none :=
 RV.casesOn (motive_1:=fun v x u_=>v.isNone=true→x=.none) r (fun u_=>rfl) (fun u_ e=>ft e) (fun u_ v_ e=>ft e) (fun u_ v_ e=>ft e) (fun u_ v_ w_ e=>ft e) (fun u_ e=>ft e) (fun u_ e=>ft e) (fun u_ v_ w_ e=>ft e) e
theorem RV.strI {K:Kx}{v:V}{x:Value}(r:RV K ρ h v x){a:Str}(e:Zlr v=some a):∃t,x=.str a t :=
 RV.casesOn (motive_1:=fun v x u_=>Zlr v=some a→∃t,x=.str a t) r (fun e=>nn e) (fun u_ e=>nn e) (fun u_ v_ e=>nn e) (fun u_ t e=>⟨t,congrArg (fun z=>Value.str z t) (Option.some.inj e)⟩) (fun u_ v_ w_ e=>nn e) (fun u_ e=>nn e) (fun u_ e=>nn e) (fun u_ v_ w_ e=>nn e) e
theorem RV.tupI {K:Kx}{v:V}{x:Value}(r:RV K ρ h v x){l:List V}(e:Zcn v=some l):∃a vs,x=.ref a∧h.get? a=some (Zz vs)∧RVs K ρ h l vs∧l.length≤Zl :=
 RV.casesOn (motive_1:=fun v x u_=>Zcn v=some l→∃a vs,x=.ref a∧h.get? a=some (Zz vs)∧RVs K ρ h l vs∧l.length≤Zl) r (fun e=>nn e) (fun u_ e=>nn e) (fun u_ v_ e=>nn e) (fun u_ v_ e=>nn e) (fun h1 h2 h3 e=>Option.some.inj e▸⟨_,_,rfl,h1,h2,h3⟩) (fun u_ e=>nn e) (fun u_ e=>nn e) (fun u_ v_ w_ e=>nn e) e
theorem RV.objI {K:Kx}{v:V}{x:Value}(r:RV K ρ h v x){n:Nat}(e:X9 v=some n):∃a,x=.ref a∧ρ[n]?=some a :=
 RV.casesOn (motive_1:=fun v x u_=>X9 v=some n→∃a,x=.ref a∧ρ[n]?=some a) r (fun e=>nn e) (fun u_ e=>nn e) (fun u_ v_ e=>nn e) (fun u_ v_ e=>nn e) (fun u_ v_ w_ e=>nn e) (fun ha e=>⟨_,rfl,Option.some.inj e▸ha⟩) (fun u_ e=>nn e) (fun u_ v_ w_ e=>nn e) e
theorem RV.mono {K:Kx}(hp:ρ <+: ρ')(ht:∀a vs,h.get? a=some (Zz vs)→h'.get? a=some (Zz vs)){v:V}{x:Value}(r:RV K ρ h v x):RV K ρ' h' v x :=
 RV.rec (motive_1:=fun v x u_=>RV K ρ' h' v x) (motive_2:=fun l vs u_=>RVs K ρ' h' l vs) .none .bool .int .str (fun e u_ n i=>.tup (ht _ _ e) i n) (fun e=>.obj (Wb hp e)) .ty (fun e u_ n i=>.frz e i n) .nil (fun u_ v_ i j=>.cons i j) r
theorem RVs.mono {K:Kx}(hp:ρ <+: ρ')(ht:∀a vs,h.get? a=some (Zz vs)→h'.get? a=some (Zz vs)){l:List V}{vs:List Value}(r:RVs K ρ h l vs):RVs K ρ' h' l vs :=
 RVs.ind (P:=RVs K ρ' h') .nil (fun a u_ i=>.cons (a.mono hp ht) i) r
structure Good (K:Kx)(ρ:List Addr)(s:Shared)(ρ':List Addr)(σ':H)(s':Shared):Prop where
 hr:HR K ρ' σ' s'.heap
 st:Step ρ s ρ' s'
theorem Good.refl {K:Kx}(x:HR K ρ σ s.heap):Good K ρ s ρ σ s:=⟨x,Step.refl ρ s⟩
theorem Good.trans {K:Kx}{ρ2:List Addr}{σ2:H}{s2:Shared}(x:Good K ρ s ρ1 σ1 s1)(y:Good K ρ1 s1 ρ2 σ2 s2):Good K ρ s ρ2 σ2 s2:=⟨y.hr,x.st.trans y.st⟩
theorem Good.tok {K:Kx}(x:Good K ρ s ρ' σ' s')(t:Nat):Good K ρ s ρ' σ' { s' with toks:=t } :=
 ⟨x.hr,⟨x.st.pre,x.st.fr,x.st.fresh,x.st.gens,x.st.os⟩⟩
theorem Ns1.ng {a:Addr}{m:Str→Option Value}(x:h.Ns1 a m)(k:∀o,ng h a=some o→ng h' a=some o):h'.Ns1 a m:=by
 revert x;refine Us fun o es ep e hd r=>?_
 refine J5 (fun o' e1 e2 u3_=>?_) (Xu (k _ (J7 e)))
 exact ⟨o',es,ep,e1,e2.trans hd,r⟩
theorem OR.move {K:Kx}{a:Addr}{o:O}(x:OR K ρ h a o)(hp:ρ <+: ρ')(ht:∀b vs,h.get? b=some (Zz vs)→h'.get? b=some (Zz vs))(hk:∀o,ng h a=some o→ng h' a=some o):OR K ρ' h' a o:=by
 cases o with
 | list l=>revert x;refine Ym fun vs n e r hl=>?_;exact ⟨vs,n,Zi3 nfL (hk _ (J7 e)),r.mono hp ht,hl⟩
 | inst c d=>
  revert x;refine W1 fun ob C ad e h1 h2 h3 h4 h5=>?_
  refine Q4 (fun o' e1 e2 e3 e4=>?_) (Xu (hk _ (J7 e)))
  exact ⟨o',C,ad,e1,h1,e3.trans h2,fun z=>by rw[e2];exact h3 z,e4.trans h4,Wb hp h5⟩
 | ns l=>
  revert x;refine J5 fun m h1 h2 h3=>?_
  exact ⟨m,Ns1.ng h1 hk,h2,fun k v hv=>let ⟨q,cv,q1,q2⟩:=h3 k v hv;⟨q,cv,q1,q2.mono hp ht⟩⟩
theorem OR.mono {K:Kx}{a:Addr}{o:O}(x:OR K ρ h a o)(hp:ρ <+: ρ')(hk:∀b o,h.get? b=some o→h'.get? b=some o):OR K ρ' h' a o :=
 x.move hp (fun u_ v_ e=>hk _ _ e) fun u_ e=>Ws hk e
theorem HR.grow {K:Kx}(x:HR K ρ σ h)(hk:∀b o,h.get? b=some o→h'.get? b=some o):HR K ρ σ h' :=
 ⟨fun b o e=>hk b o (x.keep b o e),x.len,x.nd,x.new,fun n o a h1 h2=>(x.obj n o a h1 h2).mono (List.prefix_refl _) hk⟩
theorem Good.grow {K:Kx}(x:HR K ρ σ s.heap)(hk:∀b o,s.heap.get? b=some o→h'.get? b=some o)(t:Nat):Good K ρ s ρ σ { s with heap:=h',toks:=t } :=
 ⟨x.grow hk,⟨List.prefix_refl _,fun b o e u_=>Ws hk e,fun u_ h=>.inl h,rfl,rfl⟩⟩
theorem HR.add {K:Kx}(x:HR K ρ σ h){a:Addr}{o:O}(hna:a ∉ ρ)(h0:K.h0.get? a=none)(ho:OR K (ρ++[a]) h a o):HR K (ρ++[a]) (σ++[o]) h:=by
 refine ⟨x.keep,by simp[x.len],?_,fun b hb=>?_,fun n o' b h1 h2=>?_⟩
 ·rw[List.nodup_append];exact ⟨x.nd,by simp,fun b hb c hc e=>by simp at hc;exact hna (hc▸e▸hb)⟩
 ·rcases List.mem_append.mp hb with h | h
  ·exact x.new b h
  ·rw[List.mem_singleton.mp h];exact h0
 ·by_cases hn:n<σ.length
  ·rw[List.getElem?_append_left hn] at h1
   rw[List.getElem?_append_left (by rw[x.len];exact hn)] at h2
   exact (x.obj n o' b h1 h2).mono (List.prefix_append _ _) fun u_ v_ e=>e
  ·have hn' : n = σ.length := by
    have:=(List.getElem?_eq_some_iff.mp h1).1
    simp at this;lia
   subst hn'
   rw[List.getElem?_append_right (Nat.le_refl _)] at h1
   rw[List.getElem?_append_right (by rw[x.len];exact Nat.le_refl _)] at h2
   simp[x.len] at h1 h2
   rw[← h1,← h2];exact ho
theorem Good.alloc {K:Kx}(x:HR K ρ σ s.heap){a:Addr}{o:O}(hk:∀b o,s.heap.get? b=some o→h'.get? b=some o)(ha:s.heap.get? a=none)
  (ho:OR K (ρ++[a]) h' a o) (t:Nat):Good K ρ s (ρ++[a]) (σ++[o]) { s with heap:=h',toks:=t }:=by
 have hna:a ∉ ρ:=fun hm=>by refine rEA (fun ob e u2_=>?_) (x.at_ hm);rw[ha] at e;exact nn e
 refine ⟨(x.grow hk).add hna ?_ ho,⟨List.prefix_append _ _,fun b o e u_=>Ws hk e,fun b hb=>?_,rfl,rfl⟩⟩
 ·cases hg:K.h0.get? a with
  | none=>rfl
  | some ob=>rw[x.keep a ob hg] at ha;exact ns ha
 ·rcases List.mem_append.mp hb with h | h
  ·exact .inl h
  ·rw[List.mem_singleton.mp h];exact .inr ha
theorem get?_size (h:Heap):h.get? h.objs.size=none:=by
 cases e:h.get? h.objs.size with
 | none=>rfl
 | some o=>exact absurd (Heap.lt_size e) (Nat.lt_irrefl _)
theorem Step.tups {K:Kx}(x:Step ρ s ρ' s')(hr:HR K ρ σ s.heap):∀a vs,s.heap.get? a=some (Zz vs)→s'.heap.get? a=some (Zz vs) :=
 fun a vs e=>x.ex e (fun ha=>by
  refine rEA (fun ob h1 h2=>?_) (hr.at_ ha)
  rw[e] at h1;obtain rfl:=Option.some.inj h1;exact h2 _ rfl) nfT
theorem RV.step {K:Kx}{v:V}{x:Value}(r:RV K ρ s.heap v x)(hr:HR K ρ σ s.heap)(st:Step ρ s ρ' s'):RV K ρ' s'.heap v x:=r.mono st.pre (st.tups hr)
theorem RVs.step {K:Kx}{v:List V}{x:List Value}(r:RVs K ρ s.heap v x)(hr:HR K ρ σ s.heap)(st:Step ρ s ρ' s'):RVs K ρ' s'.heap v x:=r.mono st.pre (st.tups hr)
theorem RVs.length {K:Kx}{l:List V}{vs:List Value}(r:RVs K ρ h l vs):l.length=vs.length :=
 RVs.ind (P:=fun l vs=>l.length=vs.length) rfl (fun u_ v_ i=>congrArg Nat.succ i) r
theorem RVs.consI {K:Kx}{v:V}{l:List V}{vs:List Value}(r:RVs K ρ h (v::l) vs):∃x ws,vs=x::ws∧RV K ρ h v x∧RVs K ρ h l ws :=
 RVs.ind (P:=fun l' vs=>∀v l,l'=v::l→∃x ws,vs=x::ws∧RV K ρ h v x∧RVs K ρ h l ws) (fun u_ v_ e=>nomatch e) (fun a b u_ v_ w_ e=>⟨_,_,rfl,(List.cons.inj e).1▸a,(List.cons.inj e).2▸b⟩) r v l rfl
theorem RVs.nilI {K:Kx}{vs:List Value}(r:RVs K ρ h [] vs):vs=[] :=
 List.eq_nil_of_length_eq_zero r.length.symm
theorem RVs.get {K:Kx}{l:List V}{vs:List Value}(r:RVs K ρ h l vs):∀{i:Nat}{v:V},l[i]?=some v→∃x,vs[i]?=some x∧RV K ρ h v x :=
 RVs.ind (P:=fun l vs=>∀{i:Nat}{v:V},l[i]?=some v→∃x,vs[i]?=some x∧RV K ρ h v x) (fun e=>nn e) (fun a u_ ih i v_ e=>by
  cases i with
  | zero=>refine siE e ?_;exact ⟨_,rfl,a⟩
  | succ i=>exact ih e) r
theorem RVs.append {K:Kx}{l:List V}{vs:List Value}(r:RVs K ρ h l vs){l':List V}{vs':List Value}(r':RVs K ρ h l' vs'):RVs K ρ h (l++l') (vs++vs') :=
 RVs.ind (P:=fun l vs=>RVs K ρ h (l++l') (vs++vs')) r' (fun a u_ i=>.cons a i) r
theorem RVs.take {K:Kx}{l:List V}{vs:List Value}(r:RVs K ρ h l vs):∀n:Nat,RVs K ρ h (l.take n) (vs.take n) :=
 RVs.ind (P:=fun l vs=>∀n:Nat,RVs K ρ h (l.take n) (vs.take n)) (fun n=>by cases n <;> exact .nil) (fun a u_ i n=>by
  cases n with
  | zero=>exact .nil
  | succ n=>exact .cons a (i n)) r
theorem RVs.drop {K:Kx}{l:List V}{vs:List Value}(r:RVs K ρ h l vs):∀n:Nat,RVs K ρ h (l.drop n) (vs.drop n) :=
 RVs.ind (P:=fun l vs=>∀n:Nat,RVs K ρ h (l.drop n) (vs.drop n)) (fun n=>by cases n <;> exact .nil) (fun a r i n=>by
  cases n with
  | zero=>exact .cons a r
  | succ n=>exact i n) r
noncomputable def TR (K:Kx)(A:Around){α:Type}(t:Sem α)(ρ:List Addr)(s:Shared)(σ':H)(P:List Addr→α→Shared→Prop):Prop :=
 wpAny K.M A t (fun a s'=>∃ρ',Good K ρ s ρ' σ' s'∧P ρ' a s') (fun u_ v_=>False) s
theorem TR.bind {K:Kx}{A:Around}{α β:Type}{m:Sem α}{f:α→Sem β}{σ2:H}{P:List Addr→α→Shared→Prop}{P':List Addr→β→Shared→Prop}
  (h:TR K A m ρ s σ1 P) (h':∀ρ1 a s1,Good K ρ s ρ1 σ1 s1→P ρ1 a s1→TR K A (f a) ρ1 s1 σ2 P'):TR K A (m >>= f) ρ s σ2 P':=by
 refine wpAny_bind (wpAny_mono h (fun a s1 hq=>?_) fun u_ v_ f=>f.elim)
 revert hq;refine rEA fun ρ1 g1 p1=>?_
 refine wpAny_mono (h' ρ1 a s1 g1 p1) (fun b s2 hq=>?_) fun u_ v_ f=>f
 revert hq;refine rEA fun ρ2 g2 p2=>?_
 exact ⟨ρ2,g1.trans g2,p2⟩
theorem TR.mono {K:Kx}{A:Around}{α:Type}{t:Sem α}{P P':List Addr→α→Shared→Prop}(h:TR K A t ρ s σ' P)(hp:∀ρ' a s',Good K ρ s ρ' σ' s'→P ρ' a s'→P' ρ' a s'):TR K A t ρ s σ' P' :=
 wpAny_mono h (fun a s' hq=>let ⟨ρ',g,p⟩:=hq;⟨ρ',g,hp ρ' a s' g p⟩) fun u_ v_ f=>f
theorem TR.after {K:Kx}{A:Around}{α:Type}{t:Sem α}{P:List Addr→α→Shared→Prop}(g:Good K ρ s ρ1 σ1 s1)(h:TR K A t ρ1 s1 σ' P) :
  wpAny K.M A t (fun a s'=>∃ρ',Good K ρ s ρ' σ' s'∧P ρ' a s') (fun u_ v_=>False) s1 :=
 wpAny_mono h (fun u_ v_ hq=>let ⟨ρ',g',p⟩:=hq;⟨ρ',g.trans g',p⟩) fun u_ v_ f=>f
theorem TR.pure {K:Kx}{A:Around}{α:Type}{a:α}{P:List Addr→α→Shared→Prop}(x:HR K ρ σ s.heap)(p:P ρ a s):TR K A (pure a) ρ s σ P:=wpAny_pure ⟨ρ,Good.refl x,p⟩
theorem Xv {α:Type}{a:Option α}{b:α}(h:okX a σ=some (.ok b,σ')):a=some b∧σ'=σ:=by
 cases a with
 | none=>exact nn h
 | some a=>refine okE h ?_;exact ⟨rfl,rfl⟩
theorem Zax {α:Type}{a:Option (α×H)}{b:α}(h:okH a=some (.ok b,σ')):a=some (b,σ'):=by
 cases a with
 | none=>exact nn h
 | some a=>refine okE h ?_;rfl
theorem Ns.at {a:Addr}{m:Str→Option Value}(x:h.Ns a m)(k:∀o,h.get? a=some o→h'.get? a=some o):h'.Ns a m :=
 let ⟨o,es,ep,e,r⟩:=x;⟨o,es,ep,k o e,r⟩
theorem Ns.ng {a:Addr}{m:Str→Option Value}(x:h.Ns a m)(k:∀o,ng h a=some o→ng h' a=some o):h'.Ns a m:=by
 revert x;refine Us fun o es ep e hd r=>?_
 refine J5 (fun o' e1 e2 u3_=>?_) (Xu (k _ (J7 e)))
 exact ⟨o',es,ep,e1,e2.trans hd,r⟩
theorem IsCell.at {a:Addr}{v:Option Value}(x:h.IsCell a v)(k:∀o,h.get? a=some o→h'.get? a=some o):h'.IsCell a v :=
 let ⟨o,e,r⟩:=x;⟨o,k o e,r⟩
theorem IsCell.ng {a:Addr}{v:Option Value}(x:h.IsCell a v)(k:∀o,ng h a=some o→ng h' a=some o):h'.IsCell a v:=by
 revert x;refine rEA fun o e hd=>?_
 refine J5 (fun o' e1 e2 u3_=>?_) (Xu (k _ (J7 e)))
 exact ⟨o',e1,e2.trans hd⟩
theorem Ns.ex {a:Addr}{m:Str→Option Value}(x:h.Ns a m):∃o,h.get? a=some o:=let ⟨o,_,_,e,_⟩:=x;⟨o,e⟩
noncomputable def FF (K:Kx)(A:Around)(ρ:List Addr)(h:Heap):Prop:=∀fs,A.frames=some fs→∀env∈fs,env.scope.kind≠.module∧∃L o,env.frame=some L∧L ∉ ρ∧K.h0.get? L=none∧h.get? L=some o∧dy o
theorem FF.step {K:Kx}{A:Around}(x:FF K A ρ s.heap)(st:Step ρ s ρ' s'):FF K A ρ' s'.heap:=fun fs hf env he=>by
 refine Zcj (fun h1 L o h2 h3 h4 h5 es ep h6=>?_) (x fs hf env he)
 refine J5 (fun o' e1 e2 u3_=>?_) (Xu (st.fr L _ (J7 h5) h3))
 refine ⟨h1,L,o',h2,fun hm=>?_,h4,e1,es,ep,e2.trans h6⟩
 rcases st.fresh L hm with h | h
 ·exact h3 h
 ·rw[h5] at h;exact ns h
theorem FF.keep {K:Kx}{A:Around}(x:FF K A ρ h)(hk:∀b o,h.get? b=some o→dy o→∃o',h'.get? b=some o'∧dy o'):FF K A ρ h':=fun fs hf env he=>by
 refine Qf (fun h1 L o h2 h3 h4 h5 h6=>?_) (x fs hf env he)
 refine rEA (fun o' e1 e2=>?_) (hk L o h5 h6)
 exact ⟨h1,L,o',h2,h3,h4,e1,e2⟩
theorem FF.ns {K:Kx}{A:Around}{N:Addr}{m:Str→Option Value}(x:FF K A ρ h)(hk:∀b,b≠N→∀o,h.get? b=some o→h'.get? b=some o)(hn:h'.Ns N m):FF K A ρ h':=x.keep fun b o e hd=>by
 by_cases hb:b=N
 ·subst hb;revert hn;refine Us fun o' es ep e1 e2 u5_=>?_;exact ⟨o',e1,es,ep,e2⟩
 ·exact ⟨o,hk b hb o e,hd⟩
theorem FF.but {K:Kx}{A:Around}{N:Addr}(x:FF K A ρ h)(hk:∀b,b≠N→∀o,h.get? b=some o→h'.get? b=some o)(hn:∀o,h.get? N=some o→¬ dy o):FF K A ρ h':=x.keep fun b o e hd=>by
 by_cases hb:b=N
 ·subst hb;exact absurd hd (hn o e)
 ·exact ⟨o,hk b hb o e,hd⟩
structure FO (K:Kx)(A:Around)(env:Env)(c:CEnv)(ℓ:L)(ρ:List Addr)(h:Heap):Prop where
 kind:env.scope.kind=.function
 names:env.scope.names=c.names
 glob:env.globals=mainGlobals
 blts:env.builtins=builtinsNs
 ns:∃m,h.Ns env.locals m∧∀(x:Str) (i:Nat) v,c.names.lookup x=some .local→c.slots.lookup x=some i→ℓ[i]?=some (some v)→∃cv,m x=some cv∧RV K ρ h v cv
 cell:∀x,c.names.lookup x=some .cell→∃a o,env.cells.lookup x=some a∧h.IsCell a o∧∀(i:Nat) v,c.slots.lookup x=some i→ℓ[i]?=some (some v)→∃cv,o=some cv∧RV K ρ h v cv
 inj:∀x y i,c.slots.lookup x=some i→c.slots.lookup y=some i→x=y
 capart:∀x y a,(x,a)∈env.cells→(y,a)∈env.cells→x=y
 lnew:env.locals ∉ ρ∧K.h0.get? env.locals=none
 free:∀(i:Nat) v,c.next≤i→ℓ[i]?≠some (some v)
 lt:∀x i,c.slots.lookup x=some i→i<c.next
 ff:FF K A ρ h
 cnew:∀x a,(x,a)∈env.cells→a ∉ ρ∧K.h0.get? a=none∧a≠env.locals∧∃o,h.get? a=some o∧∀xs n,o.data≠.seq xs n
theorem FO.step {K:Kx}{A:Around}{env:Env}{c:CEnv}(x:FO K A env c ℓ ρ s.heap)(hr:HR K ρ σ s.heap)(st:Step ρ s ρ' s'):FO K A env c ℓ ρ' s'.heap where
 ff:=x.ff.step st
 kind:=x.kind
 names:=x.names
 glob:=x.glob
 blts:=x.blts
 ns:=by
  refine rEA (fun m hn hv=>?_) x.ns
  exact ⟨m,Ns.ng hn fun o e=>st.fr _ _ e x.lnew.1,fun y i v h1 h2 h3=>let ⟨cv,h4,h5⟩:=hv y i v h1 h2 h3;⟨cv,h4,h5.step hr st⟩⟩
 cell:=fun y hy=>by
  refine Ym (fun a o h1 h2 h3=>?_) (x.cell y hy)
  exact ⟨a,o,h1,IsCell.ng h2 fun o e=>st.fr _ _ e (x.cnew y a (mem_of_lookup h1)).1,fun i v h4 h5=>let ⟨cv,h6,h7⟩:=h3 i v h4 h5;⟨cv,h6,h7.step hr st⟩⟩
 inj:=x.inj
 capart:=x.capart
 free:=x.free
 lt:=x.lt
 lnew:=by
  refine ⟨fun hm=>?_,x.lnew.2⟩
  refine rEA (fun m hn u2_=>?_) x.ns
  refine rE (fun o e=>?_) (Ns.ex hn)
  rcases st.fresh _ hm with h | h
  ·exact x.lnew.1 h
  ·rw[e] at h;cases h
 cnew:=fun y a hy=>by
  refine Zac (fun h1 h2 h3 o h4 h5=>?_) (x.cnew y a hy)
  refine J5 (fun o' e1 e3 u3_=>?_) (Xu (st.fr _ _ (J7 h4) h1))
  refine ⟨fun hm=>?_,h2,h3,o',e1,by rw[e3];exact h5⟩
  rcases st.fresh _ hm with h | h
  ·exact h1 h
  ·rw[h4] at h;cases h
noncomputable def Zbj:Blt→Value
 | .len => .builtin "len"
 | .max => .builtin "max"
 | .min => .builtin "min"
 | .sorted => .builtin "sorted"
 | .int => .type "int"
 | .list => .type "list"
 | .sum => .builtin "sum"
 | .isinstance => .builtin "isinstance"
noncomputable def GL (K:Kx)(x:Str)(v:Value):Prop:=∃mg mb,K.h0.Ns mainGlobals mg∧K.h0.Ns builtinsNs mb∧(mg x=some v∨(mg x=none∧mb x=some v))
structure GK (K:Kx)(T:Tabs):Prop where
 ty:∀x t,T.tys.lookup x=some t→GL K x (K.tyv t)
 fn:∀x n,T.fns.lookup x=some n→GL K x (.ref (K.fna n))∧∃o fd,K.h0.get? (K.fna n)=some o∧o.data=.func fd
 bl:∀x b,T.blts.lookup x=some b→GL K x (Zbj b)
 rg : GL K Wk (.type "range")
 cl:∀x k,T.cls.lookup x=some k→∃C,GL K x (.ref C)∧K.clv k=.ref C
 ex:∀x k,T.excs.lookup x=some k→GL K x (K.tyv k)
noncomputable def PE (K:Kx)(A:Around)(env:Env)(c:CEnv)(cl:Cl)(e:Expr)(a:Ex):Prop :=
 ∀ℓ σ v σ',Zg cl a ℓ σ=some (.ok v,σ')→∀ρ s,HR K ρ σ s.heap→FO K A env c ℓ ρ s.heap→TR K A (eval e env) ρ s σ' fun ρ' cv s'=>RV K ρ' s'.heap v cv
section
variable {K:Kx}{A:Around}{env:Env}{c:CEnv}{cl:Cl}{T:Tabs}
theorem Zay {k:Const}{n:Nat}{pos:Pos}{v:V}(h:Zln k=some v):PE K A env c cl (.Constant k n pos) (.lit v):=by
 intro ℓ σ v' σ' he ρ s hr fo
 cases he
 cases k <;> cases h
 ·exact wpAny_Constant_none ⟨ρ,Good.refl hr,.none⟩
 ·exact wpAny_Constant_bool ⟨ρ,Good.refl hr,.bool _⟩
 ·exact wpAny_Constant_int ⟨ρ,(Good.refl hr).tok _,.int _ _⟩
 ·exact wpAny_Constant_str ⟨ρ,(Good.refl hr).tok _,.str _ _⟩
set_option tactic.hygienic true in
theorem Zgc {x : Str} {i : Nat} (h : Um c x = some i) : (c.names.lookup x = some .local ∨ c.names.lookup x = some .cell) ∧ (x == ("__debug__" : Str)) = false ∧ c.slots.lookup x = some i := by
 unfold Um at h
 split at h
 ·rename_i hk
  split at h
  ·exact nn h
  ·rename_i hd;exact ⟨.inl hk,by simpa using hd,h⟩
 ·rename_i hk
  split at h
  ·exact nn h
  ·rename_i hd;exact ⟨.inr hk,by simpa using hd,h⟩
 ·exact nn h
theorem Zrt {x:Str}{pos:Pos}{i:Nat}(h:Um c x=some i):PE K A env c cl (.Name x pos) (.var i):=by
 intro ℓ σ v σ' he ρ s hr fo
 refine rA (fun hj hO1=>?_) (Xv (show okX (ℓ[i]?.join) σ=some (.ok v,σ') from he));refine eqS hO1 ?_
 refine rAA (fun hk hd hs=>?_) (Zgc h)
 have hv:ℓ[i]?=some (some v):=by
  cases hl:ℓ[i]? with
  | none=>rw[hl] at hj;exact nn hj
  | some o=>rw[hl] at hj;simp at hj;rw[hj]
 refine wpAny_Name ?_ hd
 rcases hk with hk | hk
 ·refine rEA (fun m hn hm=>?_) fo.ns
  refine rEA (fun cv h1 h2=>?_) (hm x i v hk hs hv)
  exact wpAny_loadName_local fo.kind (show env.scope.names.lookup x=_ by rw[fo.names];exact hk) hn h1 ⟨ρ,Good.refl hr,h2⟩
 ·refine Ym (fun a o h1 h2 h3=>?_) (fo.cell x hk)
  refine byC fun hX=>?_;refine rEA (fun cv hO1 h4=>?_) (h3 i v hs hv);obtain rfl:=hO1;refine hX ?_;clear hX
  exact wpAny_loadName_cell fo.kind (show env.scope.names.lookup x=_ by rw[fo.names];exact hk) h1 h2 ⟨ρ,Good.refl hr,h4⟩
theorem J8 {x:Str}{pos:Pos}{v:Value}{Q:Value→Shared→Prop}{E:Value→Shared→Prop}(hr:HR K ρ σ s.heap)(fo:FO K A env c ℓ ρ s.heap)
  (hi:Y5 c x=true) (hl:GL K x v) (hq:Q v s):wpAny K.M A (eval (.Name x pos) env) Q E s:=by
 revert hl;refine Ym fun mg mb hg hb hv=>?_
 have hg':s.heap.Ns env.globals mg:=by rw[fo.glob];exact hg.keeps hr.keep
 refine Calls.Name_function_global fo.kind (show env.scope.names.lookup x=_ by rw[fo.names];exact eq_of_beq (Ud hi)) ?_ ((Bool.not_eq_true' _).mp (W2 hi))
 rcases hv with hv | ⟨h1,h2⟩
 ·exact Calls.loadGlobal_global hg' hv hq
 ·exact Calls.loadGlobal_builtin hg' h1 (show s.heap.Ns env.builtins mb by rw[fo.blts];exact hb.keeps hr.keep) h2 hq
theorem Zqh {x:Str}{pos:Pos}{t:Nat}(hi:Y5 c x=true)(hl:GL K x (K.tyv t)):PE K A env c cl (.Name x pos) (.ty t):=by
 intro ℓ σ v σ' he ρ s hr fo
 refine okE he ?_
 exact J8 hr fo hi hl ⟨ρ,Good.refl hr,.ty t⟩
end
end Mini.Internal
namespace Mini.Internal
open PySem PyProof.Rows
variable {ρ ρ' ρ1:List Addr}{σ σ' σ1:H}{s s' s1:Shared}{h h':Heap}{ℓ ℓ':L}
set_option tactic.hygienic true in
theorem Y3 {a:Int}{n:Nat}(h:a.natAbs<2^n):Builtin.Int.intBits a≤n:=by
 unfold Builtin.Int.intBits
 split
 ·exact Nat.zero_le _
 ·rename_i h0
  have hp:a.natAbs≠0:=by simpa using h0
  have:=(Nat.log2_lt hp).mpr h
  lia
theorem mulOK.ok {a b:Int}(h:mulOK a b):IntMulOk a b:=by
 rcases h with h | h | ⟨h1,h2⟩
 ·exact IntMulOk.of_left (Y3 h)
 ·exact IntMulOk.of_right (Y3 h)
 ·have e1:Builtin.Int.intBits a≤2^21:=Y3 h1
  have e2:Builtin.Int.intBits b≤2^21:=Y3 h2
  unfold IntMulOk Builtin.Int.intTooBig bitsLine
  simp only[Bool.and_eq_true,decide_eq_true_eq,not_and]
  intro _
  lia
set_option tactic.hygienic true in
theorem Uu {l:List V}{v:V}(h:Yu σ l=some (v,σ')):l.length≤Zl∧v=.obj σ.length∧σ'=σ++[.list l]:=by
 unfold Yu at h
 split at h
 ·rename_i hl;refine pE h ?_;exact ⟨hl,rfl,rfl⟩
 ·exact nn h
section
variable {K:Kx}{A:Around}
theorem Qv (hr:HR K ρ σ s.heap){l:List V}{vs:List Value}(r:RVs K ρ s.heap l vs)(hl:l.length≤Zl){n:Nat}(t:Nat) :
  Good K ρ s (ρ++[s.heap.objs.size]) (σ++[.list l]) { s with heap:=s.heap.push (Yd vs n),toks:=t }∧RV K (ρ++[s.heap.objs.size]) (s.heap.push (Yd vs n)) (.obj σ.length) (.ref s.heap.objs.size):=by
 have hk:∀b o,s.heap.get? b=some o→(s.heap.push (Yd vs n)).get? b=some o:=fun b o e=>Heap.get?_push_of_some _ e
 refine ⟨Good.alloc (o:=.list l) hr hk (get?_size _) ⟨vs,n,Heap.get?_push_size _ rfl,r.mono (List.prefix_append _ _) (fun a vs e=>hk _ _ e),hl⟩ t,.obj ?_⟩
 rw[List.getElem?_append_right (by rw[hr.len];exact Nat.le_refl _),hr.len];simp
theorem Zls (hr:HR K ρ σ s.heap){l:List V}{vs:List Value}(r:RVs K ρ s.heap l vs)(hl:l.length≤Zl)(t:Nat) :
  Good K ρ s ρ σ { s with heap:=s.heap.push (Zz vs),toks:=t }∧RV K ρ (s.heap.push (Zz vs)) (.tup l) (.ref s.heap.objs.size):=by
 have hk:∀b o,s.heap.get? b=some o→(s.heap.push (Zz vs)).get? b=some o:=fun b o e=>Heap.get?_push_of_some _ e
 exact ⟨Good.grow hr hk t,.tup (Heap.get?_push_size _ rfl) (r.mono (List.prefix_refl _) fun a vs e=>hk _ _ e) hl⟩
set_option tactic.hygienic true in
theorem Yw (hr:HR K ρ σ h){v:V}{x:Value}{l:List V}(e:Yg σ v=some l)(r:RV K ρ h v x) :
  ∃a vs n,x=.ref a∧h.get? a=some (Yd vs n)∧RVs K ρ h l vs∧l.length≤Zl:=by
 cases v with
 | obj n=>
  refine rEA (fun u0_ hO1 ha=>?_) (r.objI rfl);refine eqS hO1 ?_
  simp only[Yg] at e
  split at e
  ·rename_i l' hl
   obtain rfl:=Option.some.inj e
   refine Ym (fun vs n' h1 h2 h3=>?_) (hr.obj _ _ _ hl ha)
   exact ⟨_,vs,n',rfl,h1,h2,h3⟩
  ·exact nn e
 | frz l'=>
  cases r with
  | frz ha hv hn=>refine siE e ?_;exact ⟨_,_,_,rfl,hr.keep _ _ ha,hv,by simpa using hn⟩
 | _=>exact nn e
theorem Ug {l:List V}{vs:List Value}(r:RVs K ρ h l vs)(hl:l.length≤Zl):vs.length≤sizeLine:=by
 rw[← r.length,sizeLine_eq];unfold Zl at hl;exact ln1 [(.le .v0 (.k 1000000))] (.le .v0 (.k 16777216)) (.d 111) rfl hl
set_option tactic.hygienic true in
theorem Zgd {op:Bop}{a b z:Int}(h:Q6 op a b=some z){o:Operator}(ho:cOp o=some op){t u:Tok}{Q:Value→Shared→Prop}{E:Value→Shared→Prop}(hq:∀t' n,Q (.int z t') { s with toks:=n }) :
  wpAny K.M A (binaryOp o (.int a t) (.int b u)) Q E s:=by
 cases o <;> cases ho
 ·obtain rfl:=Option.some.inj h;exact add_int (hq _ _)
 ·obtain rfl:=Option.some.inj h;exact sub_int' (hq _ _)
 ·simp only[Q6] at h
  split at h
  ·rename_i hm;obtain rfl:=Option.some.inj h;exact mul_int (hq _ _) hm.ok
  ·exact nn h
 ·simp only[Q6] at h
  split at h
  ·rename_i hm;obtain rfl:=Option.some.inj h;exact mod_int' hm (hq _ _)
  ·exact nn h
 ·simp only[Q6] at h
  split at h
  ·rename_i hm
   obtain rfl:=Option.some.inj h
   refine pow_int hm.1 ?_ (hq _ _)
   have h1:=Y3 hm.2.2
   exact Int.le_trans (Int.mul_le_mul (Int.ofNat_le.mpr h1) hm.2.1 hm.1 (by exact lin [] (.zle .k0 (.n (.k 64))) (.d 11) rfl [] [])) (by decide)
  ·exact nn h
 ·simp only[Q6] at h
  split at h
  ·rename_i hm
   obtain rfl:=Option.some.inj h
   refine floordiv_int hm.1 (hq _ _) (.inl (PyProof.noPylong_of_log2 ?_))
   have:=(Nat.log2_lt (show (_:Int).natAbs≠0 by simpa using hm.1)).mpr hm.2
   lia
  ·exact nn h
theorem Zkg {x y v:V}(h:Zrr σ x y=some (v,σ')){cx cy:Value}(hr:HR K ρ σ s.heap)(rx:RV K ρ s.heap x cx)(ry:RV K ρ s.heap y cy):TR K A (binaryOp .Add cx cy) ρ s σ' fun ρ' cv s'=>RV K ρ' s'.heap v cv:=by
 refine Zw (h) fun l1 h1 h=>?_
 refine Zw (h) fun l2 h2 h=>?_
 refine byC fun hX=>?_;refine rAA (fun hl hO1 hO2=>?_) (Uu h);obtain rfl:=hO1;obtain rfl:=hO2;refine hX ?_;clear hX
 refine U7 (fun a vs n hO3 g1 r1 u6_=>?_) (Yw hr h1 rx);refine eqS hO3 ?_
 refine byC fun hX=>?_;refine U7 (fun b ws n2 hO3 g2 r2 u6_=>?_) (Yw hr h2 ry);obtain rfl:=hO3;refine hX ?_;clear hX
 have hsz:vs.toArray.size+ws.toArray.size≤sizeLine:=by
  have:=Ug (r1.append r2) hl
  rw[List.length_append] at this;exact this
 refine concat_meets ⟨_,g1,rfl⟩ ⟨_,g2,rfl⟩ noFill_list_add seq_list_add PySem.F.slot_list_add PySem.F.entry_list_add (PySem.F.args_list_add_2 _ _) (list_addW a b vs.toArray ws.toArray n n2 none none #[] #[] hsz) ⟨g1,g2,?_⟩
 have e:vs.toArray++ws.toArray=(vs++ws).toArray:=List.append_toArray ..
 rw[e]
 refine rA (fun g rr=>?_) (Qv (n:=0) hr (r1.append r2) hl s.toks)
 exact ⟨_,g,rr⟩
set_option tactic.hygienic true in
theorem Zkh {x y v:V}(h:Zkf σ x y=some (v,σ')){cx cy:Value}(hr:HR K ρ σ s.heap)(rx:RV K ρ s.heap x cx)(ry:RV K ρ s.heap y cy):TR K A (binaryOp .Mult cx cy) ρ s σ' fun ρ' cv s'=>RV K ρ' s'.heap v cv:=by
 refine Zw (h) fun k h2 h'=>?_
 clear h
 obtain rfl:=Y9 h2
 have h:=h';clear h'
 refine Zw (h) fun l hl h=>?_
 split at h
 ·rename_i hm
  refine byC fun hX=>?_;refine rAA (fun hlen hO1 hO2=>?_) (Uu h);obtain rfl:=hO1;obtain rfl:=hO2;refine hX ?_;clear hX
  refine byC fun hX=>?_;refine U7 (fun a vs n hO3 g1 r1 u6_=>?_) (Yw hr hl rx);obtain rfl:=hO3;refine hX ?_;clear hX
  refine byC fun hX=>?_;refine rE (fun u hO1=>?_) (ry.intI rfl);obtain rfl:=hO1;refine hX ?_;clear hX
  refine byC fun hX=>?_;obtain ⟨x0,rfl⟩:=List.length_eq_one_iff.mp (r1.length▸hm.1);refine hX ?_;clear hX
  have hk:=hm.2
  have hs1:([x0]:List Value).toArray.size=1:=rfl
  refine wpAny_binaryOp_repeat_ref (T := "list") (U := "int") (by decide) ⟨_, g1, rfl⟩ (fun s' => typeIs_int s' k u) noFill_list_mul F.fills_int_mul F.slot_int_rmul repeat_list F.slot_int_index.lookup
   (call_meets F.slot_int_rmul (typeIs_int s k u) F.entry_int_rmul (F.args_int_rmul_2 _ _) (int___rmul___int_list k u a [x0].toArray n)
    ⟨g1,rfl,⟨_,g1,rfl⟩,call_meets F.slot_list_mul ⟨_,g1,rfl⟩ F.entry_list_mul (F.args_list_mul_2 _ _)
     (AutoListH.list___mul___list_int_3 a [x0].toArray n k u (by rcases hk with rfl | rfl <;> decide) (by rw[hs1];rcases hk with rfl | rfl <;> decide) (by rw[hs1];rcases hk with rfl | rfl <;> decide))
     ⟨g1,?_⟩⟩)
  have rk:RVs K ρ s.heap (if k=0 then [] else l) (List.replicate k.toNat x0):=by
   rcases hk with rfl | rfl
   ·exact .nil
   ·exact r1
  have e:(List.foldl (fun x1 x2=>x1++x2) #[] (List.replicate (if [x0].toArray.isEmpty=true then 0 else k.toNat) [x0].toArray))=(List.replicate k.toNat x0).toArray:=by
   rcases hk with rfl | rfl <;> rfl
  rw[e]
  refine rA (fun g rr=>?_) (Qv (n:=0) hr rk hlen s.toks)
  exact ⟨_,g,rr⟩
 ·exact nn h
theorem Zru {o:Operator}(h:cOp o=some .add):o=.Add:=by cases o <;> first | rfl | cases h
theorem Zrv {o:Operator}(h:cOp o=some .mul):o=.Mult:=by cases o <;> first | rfl | cases h
set_option tactic.hygienic true in
theorem Zge {op:Bop}{x y v:V}(h:J1 op x y σ=some (v,σ')){cx cy:Value}(hr:HR K ρ σ s.heap)(rx:RV K ρ s.heap x cx)(ry:RV K ρ s.heap y cy)
  {o:Operator} (ho:cOp o=some op):TR K A (binaryOp o cx cy) ρ s σ' fun ρ' cv s'=>RV K ρ' s'.heap v cv:=by
 cases x with
 | int a=>
  refine Zw (h) fun b hb h=>?_
  obtain rfl:=Y9 hb
  refine Jx (h) fun z hz e=>?_
  refine byC fun hX=>?_;refine rA (fun hO0 hO1=>?_) (Prod.mk.inj e);obtain rfl:=hO0;obtain rfl:=hO1;refine hX ?_;clear hX;refine byC fun hX=>?_;refine rE (fun u0_ hO1=>?_) (rx.intI rfl);obtain rfl:=hO1;refine hX ?_;clear hX;refine byC fun hX=>?_;refine rE (fun u0_ hO1=>?_) (ry.intI rfl);obtain rfl:=hO1;refine hX ?_;clear hX
  exact Zgd hz ho fun u_ v_=>⟨ρ,(Good.refl hr).tok _,.int _ _⟩
 | obj n=>
  simp only[J1] at h
  split at h
  ·rename_i e;subst e;rw[Zru ho];exact Zkg h hr rx ry
  ·split at h
   ·rename_i e;subst e;rw[Zrv ho];exact Zkh h hr rx ry
   ·exact nn h
 | _=>exact nn h
end
end Mini.Internal
namespace Mini.Internal
open PySem PyProof.Rows PySem.SeqAt
variable {ρ ρ' ρ1:List Addr}{σ σ' σ1:H}{s s' s1:Shared}{h h':Heap}{ℓ ℓ':L}
open AutoSeq1 (wpAny_loadPart')
section
variable {K:Kx}{A:Around}
theorem Zlt {v w:V}{l r:List V}{b:Bool}(e:ltT (v::l) (w::r)=some b):∃a c,v=.int a∧w=.int c:=by
 cases v with
 | int a=>
  cases w with
  | int c=>exact ⟨a,c,rfl,rfl⟩
  | _=>exact nn e
 | _=>cases w <;> exact nn e
theorem Zgf {l r:List V}{vs ws:List Value}(r1:RVs K ρ h l vs)(r2:RVs K ρ h r ws){b:Bool}(e:ltT l r=some b)(hv:vs≠[])(hw:ws≠[]) :
  ∃a c t u l' r' vs' ws',vs=.int a t::vs'∧ws=.int c u::ws'∧RVs K ρ h l' vs'∧RVs K ρ h r' ws'∧(if a=c then ltT l' r'=some b else b=decide (a<c)):=by
 cases l with
 | nil=>exact absurd (r1.nilI) hv
 | cons v l'=>
  cases r with
  | nil=>exact absurd (r2.nilI) hw
  | cons w r'=>
   refine byC fun hX=>?_;refine Jz (fun a c hO2 hO3=>?_) (Zlt e);obtain rfl:=hO2;obtain rfl:=hO3;refine hX ?_;clear hX
   refine byC fun hX=>?_;refine Ym (fun u0_ vs' hO2 x1 s1=>?_) (r1.consI);obtain rfl:=hO2;refine hX ?_;clear hX
   refine byC fun hX=>?_;refine Ym (fun u0_ ws' hO2 x2 s2=>?_) (r2.consI);obtain rfl:=hO2;refine hX ?_;clear hX
   refine byC fun hX=>?_;refine rE (fun t hO1=>?_) (x1.intI rfl);obtain rfl:=hO1;refine hX ?_;clear hX
   refine rE (fun u hO1=>?_) (x2.intI rfl);refine eqS hO1 ?_
   refine ⟨a,c,t,u,l',r',vs',ws',rfl,rfl,s1,s2,?_⟩
   have e:(if a=c then ltT l' r' else some (decide (a<c)))=some b:=e
   by_cases hac:a=c
   ·rw[if_pos hac] at e ⊢;exact e
   ·rw[if_neg hac] at e ⊢;exact (Option.some.inj e).symm
theorem Zi5 {l r:List V}{vs ws vs0 ws0:List Value}(r1:RVs K ρ h l vs)(r2:RVs K ρ h r ws){b:Bool}(e:ltT l r=some b)(hz:[]=vs.zip ws)
  (hl:(vs.length:Int)-ws.length=vs0.length-ws0.length):b=decide (vs0.length<ws0.length):=by
 cases r1 with
 | nil=>
  cases r2 with
  | nil=>refine siE e ?_;simp at hl;simp;exact ln2 [(.zeq .k0 (.s (.n .v1) (.n .v0)))] (.le .v0 .v1) (.d 111) rfl hl
  | cons _ s2=>refine siE e ?_;simp at hl;simp;exact ln3 [(.zeq (.g (.a (.n .v2) .k1)) (.s (.n .v0) (.n .v1)))] (.lt .v0 .v1) (.d 1101) rfl hl
 | cons x1 s1=>
  cases r2 with
  | nil=>refine siE e ?_;simp at hl;simp;exact ln3 [(.zeq (.a (.n .v2) .k1) (.s (.n .v1) (.n .v0)))] (.le .v0 .v1) (.d 111) rfl hl
  | cons _ s2=>simp at hz
set_option maxHeartbeats 1000000 in
theorem Zki (l b:Addr)(vs ws:List Value)(x y:List V)(ρ:List Addr)(r:Bool)(e:ltT x y=some r) :
  Meets (Builtin.«tuple.__lt__» ⟨[.ref l,.ref b],[]⟩)
   (fun u_ R s=>s.heap.get? l=some (Zz vs)∧s.heap.get? b=some (Zz ws)∧RVs K ρ s.heap x vs∧RVs K ρ s.heap y ws∧R (.ok (.ret (.bool r))) s) :=
 .of_wp fun prog w A R s h=>by
  refine byC fun hX=>?_;obtain ⟨hp,g,d,tk,os⟩:=s;refine hX ?_;clear hX;revert h;refine Ziu fun hl hb r1 r2 h=>?_
  have f2:=AutoSeq1.sub_tuple_tuple
  wp_walk using wpAny_loadPart' hl,wpAny_loadPart' hb,wpAny_forIn_list _ (fun rest b s'=>b.1=none∧s'=⟨hp,g,d,tk,os⟩∧∃x' y' vs' ws',rest=vs'.zip ws'∧RVs K ρ hp x' vs'∧RVs K ρ hp y' ws'∧ltT x' y'=some r∧(vs'.length:Int)-ws'.length=vs.length-ws.length) _
  case turn=>
   intro hR0 rest b s' hR4
   refine byC fun hX=>?_;obtain ⟨p,q⟩:=hR0;refine hX ?_;clear hX
   revert hR4;refine Wq fun hb' hO1 x' y' vs' ws' hz s1 s2 e' hlen=>?_;refine eqS hO1 ?_
   refine byC fun hX=>?_;refine Q5 (fun a c t u l' r' vs2 ws2 hO8 hO9 q1 q2 hif=>?_) (Zgf s1 s2 e' (by intro h0;subst h0;cases hz) (by intro h0;subst h0;simp at hz));obtain rfl:=hO8;obtain rfl:=hO9;refine hX ?_;clear hX
   cases hz
   refine wpAny_bind (EqAt.int_int a t c u prog w _ _ ?_)
   by_cases hac:a=c
   ·rw[if_pos hac] at hif
    rw[show (a == c)=true by simpa using hac]
    wp_walk
    exact ⟨rfl,rfl,l',r',vs2,ws2,rfl,q1,q2,hif,by simp at hlen;exact ln4 [(.zeq (.s (.a (.n .v0) .k1) (.a (.n .v1) .k1)) (.s (.n .v2) (.n .v3)))] (.zeq (.s (.n .v0) (.n .v1)) (.s (.n .v2) (.n .v3))) (.s (.d 1101) (.d 111)) rfl hlen⟩
   ·rw[if_neg hac] at hif
    rw[show (a == c)=false by simpa using hac]
    subst hif
    refine wpAny_bind (wpAny_rule (wpAny_bind (show wpAny _ _ (compareOp .Lt (.int a t) (.int c u)) _ _ _ from lt_int ?_)))
    exact wpAny_bind (wpAny_pure (wpAny_pure (wpAny_pure ⟨_,rfl,h⟩)))
  case fin=>
   intro hR0 s' hR2
   refine byC fun hX=>?_;obtain ⟨b1,b2⟩:=hR0;refine hX ?_;clear hX
   revert hR2;refine Wq fun hb' hO1 x' y' vs' ws' hz s1 s2 e' hlen=>?_;refine eqS hO1 ?_
   simp only at hb'
   subst hb'
   wp_walk
   refine ⟨_,rfl,?_⟩
   have hr:r=decide (vs.length<ws.length):=Zi5 s1 s2 e' hz hlen
   subst hr
   simpa[Builtin.Tuple.tupleCompareSizes] using h
  case h=>
   exact ⟨rfl,rfl,x,y,vs,ws,by simp,r1,r2,e,rfl⟩
set_option maxHeartbeats 1000000 in
theorem Zkj (l b:Addr)(vs ws:List Value)(x y:List V)(ρ:List Addr)(r:Bool)(e:ltT y x=some r) :
  Meets (Builtin.«tuple.__gt__» ⟨[.ref l,.ref b],[]⟩)
   (fun u_ R s=>s.heap.get? l=some (Zz vs)∧s.heap.get? b=some (Zz ws)∧RVs K ρ s.heap x vs∧RVs K ρ s.heap y ws∧R (.ok (.ret (.bool r))) s) :=
 .of_wp fun prog w A R s h=>by
  refine byC fun hX=>?_;obtain ⟨hp,g,d,tk,os⟩:=s;refine hX ?_;clear hX;revert h;refine Ziu fun hl hb r1 r2 h=>?_
  have f2:=AutoSeq1.sub_tuple_tuple
  wp_walk using wpAny_loadPart' hl,wpAny_loadPart' hb,wpAny_forIn_list _ (fun rest b s'=>b.1=none∧s'=⟨hp,g,d,tk,os⟩∧∃x' y' vs' ws',rest=vs'.zip ws'∧RVs K ρ hp x' vs'∧RVs K ρ hp y' ws'∧ltT y' x'=some r∧(vs'.length:Int)-ws'.length=vs.length-ws.length) _
  case turn=>
   intro hR0 rest b s' hR4
   refine byC fun hX=>?_;obtain ⟨p,q⟩:=hR0;refine hX ?_;clear hX
   revert hR4;refine Wq fun hb' hO1 x' y' vs' ws' hz s1 s2 e' hlen=>?_;refine eqS hO1 ?_
   refine byC fun hX=>?_;refine Q5 (fun c a u t r' l' ws2 vs2 hO8 hO9 q2 q1 hif=>?_) (Zgf s2 s1 e' (by intro h0;subst h0;simp at hz) (by intro h0;subst h0;cases hz));obtain rfl:=hO8;obtain rfl:=hO9;refine hX ?_;clear hX
   cases hz
   refine wpAny_bind (EqAt.int_int a t c u prog w _ _ ?_)
   by_cases hac:c=a
   ·rw[if_pos hac] at hif
    rw[show (a == c)=true by simpa using hac.symm]
    wp_walk
    exact ⟨rfl,rfl,l',r',vs2,ws2,rfl,q1,q2,hif,by simp at hlen;exact ln4 [(.zeq (.s (.a (.n .v0) .k1) (.a (.n .v1) .k1)) (.s (.n .v2) (.n .v3)))] (.zeq (.s (.n .v0) (.n .v1)) (.s (.n .v2) (.n .v3))) (.s (.d 1101) (.d 111)) rfl hlen⟩
   ·rw[if_neg hac] at hif
    rw[show (a == c)=false by simpa using fun e=>hac e.symm]
    subst hif
    refine wpAny_bind (wpAny_rule (wpAny_bind (show wpAny _ _ (compareOp .Gt (.int a t) (.int c u)) _ _ _ from gt_int ?_)))
    exact wpAny_bind (wpAny_pure (wpAny_pure (wpAny_pure ⟨_,rfl,h⟩)))
  case fin=>
   intro hR0 s' hR2
   refine byC fun hX=>?_;obtain ⟨b1,b2⟩:=hR0;refine hX ?_;clear hX
   revert hR2;refine Wq fun hb' hO1 x' y' vs' ws' hz s1 s2 e' hlen=>?_;refine eqS hO1 ?_
   simp only at hb'
   subst hb'
   wp_walk
   refine ⟨_,rfl,?_⟩
   have hr:r=decide (ws.length<vs.length):=Zi5 s2 s1 e' (by cases vs' <;> cases ws' <;> simp at hz ⊢) (by exact ln4 [(.zeq (.s (.n .v1) (.n .v0)) (.s (.n .v3) (.n .v2)))] (.zeq (.s (.n .v0) (.n .v1)) (.s (.n .v2) (.n .v3))) (.s (.d 111) (.d 1101)) rfl hlen)
   subst hr
   simpa[Builtin.Tuple.tupleCompareSizes] using h
  case h=>
   exact ⟨rfl,rfl,x,y,vs,ws,by simp,r1,r2,e,rfl⟩
end
section
variable {K:Kx}{A:Around}
theorem Xw {f:V→Option PyData}{n:Nat}(hf:∀v cv d,f v=some d→RV K ρ h v cv→∃as,Reads h cv d as∧d.canLay0=true∧d.depth≤n) :
  ∀(l:List V) (vs:List Value) (ds:List PyData),l.mapM f=some ds→RVs K ρ h l vs→∃as,ReadsAll h vs ds as∧PyData.canLayAll0 ds=true∧PyData.depthAll ds≤n
 | [],vs,ds,e,r=>by
  simp at e;subst e;cases r;exact ⟨[],.nil,rfl,Nat.zero_le _⟩
 | v::l,vs,ds,e,r=>by
  cases r with
  | cons r0 r1=>
   simp only[List.mapM_cons,Option.bind_eq_bind,Option.bind_eq_some_iff] at e
   revert e;refine Ztv fun d hd ds' hds e=>?_
   simp at e;subst e
   refine J5 (fun as h1 h2 h3=>?_) (hf v _ d hd r0)
   refine J5 (fun bs g1 g2 g3=>?_) (Xw hf l _ ds' hds r1)
   exact ⟨_,.cons h1 g1,by simp[PyData.canLayAll0,h2,g2],by simp only[PyData.depthAll];exact ln4 [(.le .v2 .v1),(.le .v3 .v1),(.mx .v0 .v2 .v3)] (.le .v0 .v1) (.s (.d 110101) (.d 111001)) rfl h3 g3 (Qg _ _)⟩
set_option tactic.hygienic true in
theorem W4 (hr:HR K ρ σ h):∀(f:Nat) (v:V) (cv:Value) (d:PyData),toD f σ v=some d→RV K ρ h v cv→∃as,Reads h cv d as∧d.canLay0=true∧d.depth≤f
 | 0,v,cv,d,e,r=>by simp[toD] at e
 | f+1,v,cv,d,e,r=>by
  have ih:=W4 hr f
  cases r with
  | none=>simp[toD] at e;subst e;exact ⟨[],.none,rfl,Nat.zero_le _⟩
  | bool b=>simp[toD] at e;subst e;exact ⟨[],.bool b,rfl,Nat.zero_le _⟩
  | int i t=>simp[toD] at e;subst e;exact ⟨[],.int i t,rfl,Nat.zero_le _⟩
  | str s t=>
   simp only[toD] at e
   split at e
   ·rename_i hs;refine siE e ?_;exact ⟨[],.str s t,by simpa[PyData.canLay0] using hs,Nat.zero_le _⟩
   ·exact nn e
  | tup ha rs hn=>
   simp only[toD,Option.map_eq_some_iff] at e
   revert e;refine rEA fun ds h1 hO2=>?_;refine eqE hO2 ?_
   refine J5 (fun as g1 g2 g3=>?_) (Xw (fun v cv d=>ih v cv d) _ _ ds h1 rs)
   exact ⟨as,.tuple ha rfl rfl (by simpa using g1),by simpa[PyData.canLay0] using g2,by simp only[PyData.depth];exact ln2 [(.le .v0 .v1)] (.le (.a .v0 .k1) (.a .v1 .k1)) (.d 111) rfl g3⟩
  | obj ha=>
   simp only[toD] at e
   split at e
   ·rename_i l hl
    simp only[Option.map_eq_some_iff] at e
    revert e;refine rEA fun ds h1 hO2=>?_;refine eqE hO2 ?_
    refine Ym (fun vs n e1 rs u4_=>?_) (hr.obj _ _ _ hl ha)
    refine J5 (fun as g1 g2 g3=>?_) (Xw (fun v cv d=>ih v cv d) _ _ ds h1 rs)
    exact ⟨_,.list e1 rfl rfl (by simpa using g1),by simpa[PyData.canLay0] using g2,by simp only[PyData.depth];exact ln2 [(.le .v0 .v1)] (.le (.a .v0 .k1) (.a .v1 .k1)) (.d 111) rfl g3⟩
   ·exact nn e
  | ty t=>simp[toD] at e
  | frz _ _ _=>simp[toD] at e
set_option tactic.hygienic true in
theorem Zoh {x y:V}{b:Bool}(e:eqV σ x y=some b):∃dx dy,toD 6 σ x=some dx∧toD 6 σ y=some dy∧b=PyData.eqv dx dy:=by
 unfold eqV at e
 split at e
 ·rename_i h1 h2;refine siE e ?_;exact ⟨_,_,h1,h2,rfl⟩
 ·exact nn e
theorem Zbk (hr:HR K ρ σ h){v:V}{x:Value}{l:List V}(e:items σ v=some l)(r:RV K ρ h v x) :
  ∃a vs,x=.ref a∧((∃n,h.get? a=some (Yd vs n))∨h.get? a=some (Zz vs))∧RVs K ρ h l vs∧l.length≤Zl:=by
 cases v with
 | obj n=>
  refine Us (fun a vs n' h1 h2 h3=>?_) (Yw hr (l:=l) (show Yg σ (.obj n)=some l from e) r)
  exact ⟨a,vs,h1,.inl ⟨n',h2⟩,h3⟩
 | frz l'=>
  refine Us (fun a vs n' h1 h2 h3=>?_) (Yw hr (l:=l) (show Yg σ (.frz l')=some l from e) r)
  exact ⟨a,vs,h1,.inl ⟨n',h2⟩,h3⟩
 | tup l'=>
  refine Xl (fun u0_ u1_ hO2 ha rs hn=>?_) (r.tupI rfl);refine eqS hO2 ?_;obtain rfl:=Option.some.inj e;exact ⟨_,_,rfl,.inr ha,rs,hn⟩
 | _=>exact nn e
theorem Zi6 {x y:V}{b:Bool}(e:isV x y=some b){cx cy:Value}(rx:RV K ρ h x cx)(ry:RV K ρ h y cy):plainIs cx cy=true∧(cx == cy)=b:=by
 cases y with
 | none=>
  obtain rfl:=ry.noneI rfl
  have e:Ziz x=some b:=e
  cases rx with
  | ty t=>exact nn e
  | _=>refine siE e ?_;exact ⟨rfl,rfl⟩
 | bool c=>
  obtain rfl:=ry.boolI rfl
  have e:Zi0 c x=some b:=e
  cases rx with
  | bool d=>refine siE e ?_;exact ⟨rfl,by rw[Bool.eq_iff_iff];simp⟩
  | int _ _=>refine siE e ?_;exact ⟨rfl,rfl⟩
  | none=>refine siE e ?_;exact ⟨rfl,rfl⟩
  | _=>exact nn e
 | _=>exact nn e
theorem Zgg {x y:V}{b:Bool}(h:ltV x y=some b){cx cy:Value}(rx:RV K ρ s.heap x cx)(ry:RV K ρ s.heap y cy)(hu:A.units+16<cLine){Q:Value→Shared→Prop}{E:Value→Shared→Prop}(hq:Q (.bool b) s) :
  wpAny K.M A (compareOp .Lt cx cy) Q E s∧wpAny K.M A (compareOp .Gt cy cx) Q E s:=by
 cases x with
 | int a=>
  refine Jx (h) fun c hc e=>?_
  obtain rfl:=Y9 hc
  subst e;refine byC fun hX=>?_;refine rE (fun u0_ hO1=>?_) (rx.intI rfl);obtain rfl:=hO1;refine hX ?_;clear hX;refine byC fun hX=>?_;refine rE (fun u0_ hO1=>?_) (ry.intI rfl);obtain rfl:=hO1;refine hX ?_;clear hX
  exact ⟨lt_int hq,gt_int hq⟩
 | tup l=>
  refine Zw (h) fun r hc e=>?_
  obtain rfl:=Zbg hc
  refine byC fun hX=>?_;refine Xl (fun u0_ u1_ hO2 e1 r1 u5_=>?_) (rx.tupI rfl);obtain rfl:=hO2;refine hX ?_;clear hX
  refine byC fun hX=>?_;refine Xl (fun u0_ u1_ hO2 e2 r2 u5_=>?_) (ry.tupI rfl);obtain rfl:=hO2;refine hX ?_;clear hX
  exact ⟨richCompare_meets_room (op:=.Lt) ⟨_,e1,rfl⟩ ⟨_,e2,rfl⟩ F.slot_tuple_lt F.entry_tuple_lt (F.args_tuple_lt_2 _ _) (Zki _ _ _ _ _ _ ρ b e) ⟨e1,e2,r1,r2,⟨(fun x=>nomatch x),hq⟩⟩ (by exact ln2 [(.lt (.a .v0 (.k 16)) .v1)] (.lt .v0 .v1) (.d 111) rfl hu),
   richCompare_meets_room (op:=.Gt) ⟨_,e2,rfl⟩ ⟨_,e1,rfl⟩ F.slot_tuple_gt F.entry_tuple_gt (F.args_tuple_gt_2 _ _) (Zkj _ _ _ _ _ _ ρ b e) ⟨e2,e1,r2,r1,⟨(fun x=>nomatch x),hq⟩⟩ (by exact ln2 [(.lt (.a .v0 (.k 16)) .v1)] (.lt .v0 .v1) (.d 111) rfl hu)⟩
 | _=>exact nn h
theorem Zgh {x y:V}{b:Bool}(h:leV x y=some b){cx cy:Value}(rx:RV K ρ s.heap x cx)(ry:RV K ρ s.heap y cy){Q:Value→Shared→Prop}{E:Value→Shared→Prop}(hq:Q (.bool b) s) :
  wpAny K.M A (compareOp .LtE cx cy) Q E s∧wpAny K.M A (compareOp .GtE cy cx) Q E s:=by
 refine Zw (h) fun a ha h'=>?_
 refine Jx (h') fun c hc e=>?_
 obtain rfl:=Y9 ha
 obtain rfl:=Y9 hc
 subst e;refine byC fun hX=>?_;refine rE (fun u0_ hO1=>?_) (rx.intI rfl);obtain rfl:=hO1;refine hX ?_;clear hX;refine rE (fun u0_ hO1=>?_) (ry.intI rfl);refine eqS hO1 ?_
 exact ⟨le_int hq,ge_int hq⟩
set_option tactic.hygienic true in
theorem Zgi {x y:V}{b:Bool}(h:(items σ y).bind (inV σ x)=some b){cx cy:Value}(hr:HR K ρ σ s.heap)(rx:RV K ρ s.heap x cx)(ry:RV K ρ s.heap y cy)(hu:A.units+16<cLine){Q:Value→Shared→Prop}{E:Value→Shared→Prop} :
  (Q (.bool b) s→wpAny K.M A (compareOp .In cx cy) Q E s)∧(Q (.bool (!b)) s→wpAny K.M A (compareOp .NotIn cx cy) Q E s):=by
 refine Zw (h) fun l hl hi=>?_
 unfold inV at hi
 split at hi
 ·rename_i ds d hd1 hd2
  refine siE hi ?_
  refine Xl (fun a vs hO2 hobj rs u5_=>?_) (Zbk hr hl ry);refine eqS hO2 ?_
  refine J5 (fun as g1 g2 g3=>?_) (Xw (W4 hr 6) _ _ _ hd1 rs)
  refine J5 (fun bs k1 k2 k3=>?_) (W4 hr 6 _ _ _ hd2 rx)
  have hu':A.units+1+min (PyData.depthAll ds) d.depth<cLine:=by
   have:min (PyData.depthAll ds) d.depth≤6:=Nat.le_trans (Nat.min_le_left _ _) g3
   lia
  rcases hobj with ⟨n,e⟩ | e
  ·have hR:=Reads.list e rfl rfl g1
   exact ⟨fun hq=>in_list_reads hR k1 g2 k2 hu' hq,fun hq=>notIn_list_reads hR k1 g2 k2 hu' hq⟩
  ·have hR:=Reads.tuple e rfl rfl g1
   exact ⟨fun hq=>in_tuple_reads hR k1 g2 k2 hu' hq,fun hq=>notIn_tuple_reads hR k1 g2 k2 hu' hq⟩
 ·exact nn hi
theorem Zgj {x y:V}{b:Bool}(h:eqV σ x y=some b){cx cy:Value}(hr:HR K ρ σ s.heap)(rx:RV K ρ s.heap x cx)(ry:RV K ρ s.heap y cy)(hu:A.units+16<cLine){Q:Value→Shared→Prop}{E:Value→Shared→Prop} :
  (Q (.bool b) s→wpAny K.M A (compareOp .Eq cx cy) Q E s)∧(Q (.bool (!b)) s→wpAny K.M A (compareOp .NotEq cx cy) Q E s):=by
 refine Ym (fun dx dy h1 h2 hO4=>?_) (Zoh h);refine eqS hO4 ?_
 refine J5 (fun as g1 g2 g3=>?_) (W4 hr 6 _ _ _ h1 rx)
 refine J5 (fun bs k1 k2 k3=>?_) (W4 hr 6 _ _ _ h2 ry)
 have hu':A.units+1+min dx.depth dy.depth<cLine:=by
  have:min dx.depth dy.depth≤6:=Nat.le_trans (Nat.min_le_left _ _) g3
  lia
 exact ⟨fun hq=>compareEq_reads g1 k1 g2 k2 (by exact ln3 [(.lt (.a (.a .v0 .k1) .v1) .v2)] (.lt (.a .v0 .v1) .v2) (.d 111) rfl hu') hq,fun hq=>compareNe_reads g1 k1 g2 k2 (by exact ln3 [(.lt (.a (.a .v0 .k1) .v1) .v2)] (.lt (.a .v0 .v1) .v2) (.d 111) rfl hu') hq⟩
theorem J9 {op:Cop}{x y:V}{b:Bool}(h:Z9 op x y σ=some b){cx cy:Value}(hr:HR K ρ σ s.heap)(rx:RV K ρ s.heap x cx)(ry:RV K ρ s.heap y cy)
  {o:CmpOp} (ho:Zlo o=op) (hu:A.units+16<cLine) {Q:Value→Shared→Prop}{E:Value→Shared→Prop} (hq:Q (.bool b) s):wpAny K.M A (compareOp o cx cy) Q E s:=by
 subst ho
 cases o with
 | Eq=>exact (Zgj h hr rx ry hu).1 hq
 | NotEq=>
  refine byC fun hX=>?_;refine rEA (fun b' hb' hO2=>?_) (Option.map_eq_some_iff.mp h);obtain rfl:=hO2;refine hX ?_;clear hX
  exact (Zgj hb' hr rx ry hu).2 hq
 | Lt=>exact (Zgg h rx ry hu hq).1
 | LtE=>exact (Zgh h rx ry hq).1
 | Gt=>exact (Zgg h ry rx hu hq).2
 | GtE=>exact (Zgh h ry rx hq).2
 | Is=>
  refine rA (fun h1 h2=>?_) (Zi6 h rx ry)
  exact wpAny_is_plain h1 (h2▸hq)
 | IsNot=>
  refine byC fun hX=>?_;refine rEA (fun b' hb' hO2=>?_) (Option.map_eq_some_iff.mp h);obtain rfl:=hO2;refine hX ?_;clear hX
  refine rA (fun h1 h2=>?_) (Zi6 hb' rx ry)
  exact wpAny_isNot_plain h1 (h2▸hq)
 | In=>exact (Zgi h hr rx ry hu).1 hq
 | NotIn=>
  refine byC fun hX=>?_;refine rEA (fun b' hb' hO2=>?_) (Option.map_eq_some_iff.mp h);obtain rfl:=hO2;refine hX ?_;clear hX
  exact (Zgi hb' hr rx ry hu).2 hq
end
set_option tactic.hygienic true in
theorem Zi7 {i:Int}{n k:Nat}(h:Zco i n=some k):k<n∧-(n:Int)≤i∧i<n∧(if 0≤i then k=i.toNat else k=(i+n).toNat):=by
 unfold Zco at h
 split at h
 ·rename_i h0
  split at h
  ·refine siE h ?_;rw[if_pos h0];refine ⟨by exact lin [(.zle .k0 .v0),(.nt .v0 .v0),(.zlt .v0 (.n .v1))] (.lt .v0 .v1) (.s (.d 1100101) (.d 1110101)) rfl [_,_] [_] h0 (U2 _) ‹_›,by exact lin [(.zle .k0 .v0)] (.zle (.g (.n .v0)) .v0) (.d 111) rfl [_] [_] h0,by exact lin [(.zlt .v0 (.n .v0))] (.zlt .v0 (.n .v0)) (.d 111) rfl [_] [_] ‹_›,rfl⟩
  ·exact nn h
 ·rename_i h0
  split at h
  ·refine siE h ?_;rw[if_neg h0];refine ⟨by exact lin [(.no (.zle .k0 .v0)),(.nt .v0 (.a .v0 (.n .v1))),(.zle .k0 (.a .v0 (.n .v1)))] (.lt .v0 .v1) (.s (.d 11101) (.d 1110101)) rfl [_,_] [_] h0 (U2 _) ‹_›,by exact lin [(.zle .k0 (.a .v0 (.n .v0)))] (.zle (.g (.n .v0)) .v0) (.d 111) rfl [_] [_] ‹_›,by exact lin [(.no (.zle .k0 .v0))] (.zlt .v0 (.n .v0)) (.d 111) rfl [_] [_] h0,rfl⟩
  ·exact nn h
theorem Zlu {i:Int}{n k:Nat}(h:Zco i n=some k):seqIndex? i n=some k:=by
 refine Zb8 (fun h1 h2 h3 h4=>?_) (Zi7 h)
 unfold seqIndex?
 by_cases h0:0≤i
 ·rw[if_pos h0] at h4
  have hn:¬ i<0:=by exact lz1 [(.zle .k0 .v0)] (.no (.zlt .v0 .k0)) (.d 111) rfl h0
  simp only[hn,if_false]
  rw[if_pos (by simp only[Bool.and_eq_true,decide_eq_true_eq];exact lin [(.zlt .v0 (.n .v0)),(.zle .k0 .v0)] (.an (.zle .k0 .v0) (.zlt .v0 (.n .v0))) (.s (.d 1101) (.d 111)) rfl [_] [_] h3 h0),h4]
 ·rw[if_neg h0] at h4
  have hn:i<0:=by exact lz1 [(.no (.zle .k0 .v0))] (.zlt .v0 .k0) (.d 111) rfl h0
  simp only[hn,if_true]
  rw[if_pos (by simp only[Bool.and_eq_true,decide_eq_true_eq];exact lin [(.zle (.g (.n .v0)) .v0),(.no (.zle .k0 .v0))] (.an (.zle .k0 (.a .v0 (.n .v0))) (.zlt (.a .v0 (.n .v0)) (.n .v0))) (.s (.d 111) (.d 1101)) rfl [_] [_] h2 h0),h4]
theorem Zgk (i:Int)(n:Nat):Z5 i n=clipAt n i:=by
 unfold Z5 clipAt
 by_cases h:i<0
 ·rw[if_pos h,if_pos h]
  have h2:i+n≤n:=Int.add_le_of_le_sub_right (by rw[Int.sub_self];exact Int.le_of_lt h)
  rw[Int.min_eq_left h2]
  rcases Int.le_total 0 (i+n) with h3 | h3
  ·rw[Int.max_eq_right h3]
  ·rw[Int.max_eq_left h3,Int.toNat_of_nonpos h3];rfl
 ·rw[if_neg h,if_neg h]
  have h0:0≤i:=Int.not_lt.mp h
  rw[Int.max_eq_right (Int.le_min.mpr ⟨h0,Int.natCast_nonneg n⟩)]
  lia
section
variable {K:Kx}{A:Around}{env:Env}
theorem Zct {value slice:Expr}{o i:Value}{T id:String}{Q:Value→Shared→Prop}{E:Value→Shared→Prop}(hT:s.TypeIs o T)
  (hl : typeLookup (.type T) "__getitem__" = pure (some (.builtin id))) (h : wpAny K.M A (getItem o i) Q E s) : wpAny K.M A (subscriptTail value slice o i) Q E s := by
 unfold subscriptTail
 refine wpAny_bind ?_
 rw[getitemInPython_of_ne hT.not_modules]
 refine wpAny_bind (wpAny_specialOf hT hl ?_)
 have fin:wpAny K.M A (subscripted slice false o i) (fun r s₃=>wpAny K.M A (letTemporaryGo value o r >>= fun u_=>pure r) Q E s₃) E s:=by
  have k:wpAny K.M A (getItem o i) (fun r s₃=>wpAny K.M A (letTemporaryGo value o r >>= fun u_=>pure r) Q E s₃) E s :=
   wpAny_mono h (fun r s₃ h₃=>wpAny_bind (wpAny_letTemporaryGo (wpAny_pure h₃))) fun u_ v_ x=>x
  cases slice with
  | Slice lo hi st p=>
   cases st with
   | none=>exact wpAny_operating k
   | some _=>exact wpAny_operating k
  | _=>exact wpAny_operating k
 first
  | exact wpAny_pure (wpAny_bind fin)
  | exact wpAny_bind (wpAny_pure (wpAny_bind fin))
  | exact wpAny_bind fin
set_option tactic.hygienic true in
theorem Ze6 {x y v:V}(h:Yo σ x y=some v){cx cy:Value}(hr:HR K ρ σ s.heap)(rx:RV K ρ s.heap x cx)(ry:RV K ρ s.heap y cy)
  {value slice:Expr}:TR K A (subscriptTail value slice cx cy) ρ s σ fun ρ' cv s'=>RV K ρ' s'.heap v cv:=by
 refine Zw (h) fun k hk h'=>?_
 obtain rfl:=Y9 hk
 refine Zw (h') fun l hl h''=>?_
 refine Zw (h'') fun j hj hv=>?_
 refine byC fun hX=>?_;refine Xl (fun a vs hO2 hobj rs hlen=>?_) (Zbk hr hl rx);obtain rfl:=hO2;refine hX ?_;clear hX
 refine rEA (fun cv hc rv=>?_) (rs.get hv)
 have hlv:=rs.length
 refine Zb8 (fun h1 h2 h3 h4=>?_) (Zi7 hj)
 unfold Zl at hlen
 refine byC fun hX=>?_;refine rE (fun u0_ hO1=>?_) (ry.intI rfl);obtain rfl:=hO1;refine hX ?_;clear hX
 have hc':vs.toArray[j]?=some cv:=by rw[List.getElem?_toArray];exact hc
 have hsz:vs.toArray.size=l.length:=hlv.symm
 rcases hobj with ⟨n,e⟩ | e
 ·have hL:s.heap.IsList a vs.toArray:=⟨_,e,rfl,n,rfl⟩
  refine Zct hL.typeIs slot_list_getitem.lookup ?_
  split at h4
  ·rename_i h0
   exact wpAny_getItem_list hL h0 (by lia) (x:=cv) (h4▸hc') ⟨ρ,Good.refl hr,rv⟩
  ·rename_i h0
   exact wpAny_getItem_list_neg hL (by exact lz1 [(.no (.zle .k0 .v0))] (.zlt .v0 .k0) (.d 111) rfl h0) (by rw[hsz];exact lin [(.zle (.g (.n .v0)) .v0)] (.zle (.g (.n .v0)) .v0) (.d 111) rfl [_] [_] h2) (by lia) (x:=cv) (by rw[hsz];exact h4▸hc') ⟨ρ,Good.refl hr,rv⟩
 ·refine Zct (T := "tuple") ⟨_, e, rfl⟩ PySem.F.slot_tuple_getitem.lookup ?_
  exact getItem_meets ⟨_,e,rfl⟩ (by decide) F.slot_tuple_getitem F.entry_tuple_getitem (F.args_tuple_getitem_2 _ _) (MeetsSeq.tuple_getitem_at a vs.toArray 0 k _ j cv (by lia) (by lia) (by rw[hsz];exact Zlu hj) hc') ⟨e,ρ,Good.refl hr,rv⟩
theorem Ze7 {v:V}{x:Value}(r:RV K ρ h v x){b:Option Int}(e:Qu v=some b):IsPart x b:=by
 cases r with
 | none=>refine siE e ?_;exact .none
 | int i t=>refine siE e ?_;exact .int i t
 | _=>exact nn e
theorem RVs.evens (n:Nat):∀{l:List V}{vs:List Value},l.length≤n→RVs K ρ h l vs→RVs K ρ h (evens l) (evens vs):=by
 induction n with
 | zero=>
  intro l vs hn r
  cases r with
  | nil=>exact .nil
  | cons a r=>exact absurd hn (by simp)
 | succ n ih=>
  intro l vs hn r
  cases r with
  | nil=>exact .nil
  | cons a r=>
   cases r with
   | nil=>exact .cons a .nil
   | cons b r=>exact .cons a (ih (by simp only[List.length_cons] at hn;exact ln2 [(.le (.a (.a .v0 .k1) .k1) (.a .v1 .k1))] (.le .v0 .v1) (.d 111) rfl hn) r)
theorem Zhz {α:Type}(xs:Array α):∀(n a:Nat),n=(xs.size-a+1) / 2→((List.range n).map fun k=>a+k*2).filterMap (xs[·]?)=evens (xs.toList.drop a):=by
 intro n
 induction n with
 | zero=>
  intro a h
  have:xs.toList.drop a=[]:=by rw[List.drop_eq_nil_iff];simp;exact ln4 [(.eq .k0 .v2),(.an (.le (.m 2 .v2) (.a .v3 .k1)) (.lt (.a .v3 .k1) (.a (.m 2 .v2) (.k 2)))),(.sb .v3 .v0 .v1)] (.le .v0 .v1) (.s (.d 110201001) (.d 1100001)) rfl h (J6 _ 2 (by decide)) (Zd _ _)
  rw[this];rfl
 | succ n ih=>
  intro a h
  have ha:a<xs.size:=by exact ln5 [(.eq (.a .v2 .k1) .v3),(.an (.le (.m 2 .v3) (.a .v4 .k1)) (.lt (.a .v4 .k1) (.a (.m 2 .v3) (.k 2)))),(.sb .v4 .v1 .v0)] (.lt .v0 .v1) (.s (.d 11201001) (.d 10201001)) rfl h (J6 _ 2 (by decide)) (Zd _ _)
  have e1:xs.toList.drop a=xs[a]::xs.toList.drop (a+1):=by rw[List.drop_eq_getElem_cons (by simpa using ha)];simp
  rw[List.range_succ_eq_map,List.map_cons,List.filterMap_cons]
  have h0:xs[a+0*2]?=some xs[a]:=by simp[ha]
  rw[h0,e1]
  have ih':=ih (a+2) (by exact ln7 [(.eq (.a .v0 .k1) .v2),(.an (.le (.m 2 .v2) (.a .v3 .k1)) (.lt (.a .v3 .k1) (.a (.m 2 .v2) (.k 2)))),(.an (.le (.m 2 .v1) (.a .v4 .k1)) (.lt (.a .v4 .k1) (.a (.m 2 .v1) (.k 2)))),(.sb .v3 .v6 .v5),(.sb .v4 .v6 (.a .v5 (.k 2)))] (.eq .v0 .v1) (.s (.s (.s (.d 1202011000101) (.d 1200001000001)) (.s (.d 100000001001) (.d 1020100001))) (.s (.s (.d 12201001010001) (.d 12201001010101)) (.s (.d 100000001001) (.d 12201001010001)))) rfl h (J6 _ 2 (by decide)) (J6 _ 2 (by decide)) (Zd _ _) (Zd _ _))
  have hm:((List.map Nat.succ (List.range n)).map fun k=>a+k*2)=(List.range n).map fun k=>a+2+k*2:=by
   rw[List.map_map];apply List.map_congr_left;intro k _;simp;exact ln2 [] (.eq (.a .v0 (.w (.a .v1 .k1) 2)) (.a (.a .v0 (.k 2)) (.w .v1 2))) (.s (.d 11) (.d 11)) rfl
  rw[hm,ih']
  by_cases h2:a+1<xs.size
  ·have e2:xs.toList.drop (a+1)=xs[a+1]::xs.toList.drop (a+2):=by rw[List.drop_eq_getElem_cons (by simpa using h2)];simp
   rw[e2];rfl
  ·have e2:xs.toList.drop (a+1)=[]:=by rw[List.drop_eq_nil_iff];simp;exact ln2 [(.no (.lt (.a .v1 .k1) .v0))] (.le .v0 (.a .v1 .k1)) (.d 111) rfl h2
   have e3:xs.toList.drop (a+2)=[]:=by rw[List.drop_eq_nil_iff];simp;exact ln2 [(.no (.lt (.a .v1 .k1) .v0))] (.le .v0 (.a .v1 (.k 2))) (.d 111) rfl h2
   rw[e2,e3];rfl
theorem Zca (items:Array Value)(i:Int):slicePick items (some i) none (some 2)=(evens (items.toList.drop (clipAt items.size i))).toArray:=by
 unfold slicePick
 have hb:sliceBounds (some i) none (some 2) items.size=(((clipAt items.size i:Nat):Int),((items.size:Nat):Int),2):=by
  simp[sliceBounds,clipAt_cast]
 rw[hb]
 have hle:clipAt items.size i≤items.size:=by have:=clipAt_cast items.size i;lia
 congr 1
 unfold sliceRange
 dsimp only
 have hc : (if (2 : Int) > 0 then (if ((clipAt items.size i : Nat) : Int) < (items.size : Int) then (((items.size : Nat) : Int) - ((clipAt items.size i : Nat) : Int) + 2 - 1) / 2 else 0)
   else (if ((clipAt items.size i:Nat):Int)>(items.size:Int) then (((clipAt items.size i:Nat):Int)-((items.size:Nat):Int)-2-1) / (-2) else 0)).toNat=(items.size-clipAt items.size i+1) / 2:=by
  rw[if_pos (by decide)]
  split <;> lia
 rw[hc,← Zhz items _ (clipAt items.size i) rfl]
 congr 1
 apply List.map_congr_left
 intro k _
 exact ln3 [(.nt .v0 (.a (.n .v1) (.m 2 (.n .v2))))] (.eq .v0 (.a .v1 (.w .v2 2))) (.s (.s (.d 11001) (.d 11101)) (.s (.d 1101) (.d 1101))) rfl (U2 _)
set_option tactic.hygienic true in
theorem Zgl {l r:List V}{lo hi st:V}(e:Xo l lo hi st=some r){vs:List Value}{cl cu cs:Value}(rv:RVs K ρ h l vs)(rl:RV K ρ h lo cl)(ru:RV K ρ h hi cu)(rs:RV K ρ h st cs) :
  ∃a b c,IsPart cl a∧IsPart cu b∧IsPart cs c∧c≠some 0∧∃ws:List Value,slicePick vs.toArray a b c=ws.toArray∧RVs K ρ h r ws:=by
 refine Zw (e) fun a ha e1=>?_
 refine Zw (e1) fun b hb e2=>?_
 refine Zw (e2) fun c hc e3=>?_
 have hsz:vs.toArray.size=l.length:=rv.length.symm
 have hcl:(fun i=>Z5 i l.length)=clipAt l.length:=funext fun i=>Zgk i _
 have hlo:loN a l.length=a.elim 0 (clipAt l.length):=by unfold loN;rw[hcl]
 have hhi:hiN b l.length=b.elim l.length (clipAt l.length):=by unfold hiN;rw[hcl]
 refine ⟨a,b,c,Ze7 rl ha,Ze7 ru hb,Ze7 rs hc,?_⟩
 split at e3
 ·rename_i h0
  subst h0;refine siE e3 ?_
  refine ⟨by simp,(vs.take (hiN b l.length)).drop (loN a l.length),?_,(rv.take _).drop _⟩
  rw[slicePick_plain,hsz,← hlo,← hhi,List.drop_take]
 ·split at e3
  ·rename_i h0
   revert h0;refine rAA fun hO0 hO1 ha0=>?_;refine eqS hO0 ?_;refine eqS hO1 ?_
   obtain rfl:=Option.some.inj e3
   cases a with
   | none=>exact absurd rfl ha0
   | some i=>
    refine ⟨by decide,evens (vs.drop (loN (some i) l.length)),?_,(rv.drop _).evens _ (Nat.le_refl _)⟩
    rw[Zca,hsz,hlo];rfl
  ·exact nn e3
theorem Zgm {x lo hi st v:V}(h:Wg σ x lo hi st=some (v,σ')){cx cl cu cs:Value}{sl:Addr}(hr:HR K ρ σ s.heap)(rx:RV K ρ s.heap x cx)
  (rl:RV K ρ s.heap lo cl) (ru:RV K ρ s.heap hi cu) (rs:RV K ρ s.heap st cs) (hsl:s.heap.IsSliceOf sl cl cu cs) {value slice:Expr} :
  TR K A (subscriptTail value slice cx (.ref sl)) ρ s σ' fun ρ' cv s'=>RV K ρ' s'.heap v cv:=by
 refine Zw (h) fun l hl h'=>?_
 refine Zw (h') fun r h1 h2=>?_
 refine rAA (fun hlen hO1 hO2=>?_) (Uu h2);refine eqS hO1 ?_;refine eqS hO2 ?_
 refine byC fun hX=>?_;refine U7 (fun a vs n hO3 e rv hn=>?_) (Yw hr hl rx);obtain rfl:=hO3;refine hX ?_;clear hX
 have hL:s.heap.IsList a vs.toArray:=⟨_,e,rfl,n,rfl⟩
 refine Zhw (fun pa pb pc p1 p2 p3 p4 ws hw rw'=>?_) (Zgl h1 rv rl ru rs)
 refine Zct hL.typeIs slot_list_getitem.lookup (wpAny_getItem_list_slice hL hsl p1 p2 p3 p4 ?_ (Ug rv hn))
 rw[hw]
 refine rA (fun g rr=>?_) (Qv (n:=0) hr rw' hlen s.toks)
 exact ⟨_,g,rr⟩
end
structure Rm (d:Nat)(A:Around):Prop where
 handled:A.handled=none
 depth:A.depth+2*d<recursionLimit
 units:A.units+8*d+40<cLine
 fr:∃fs,A.frames=some fs
theorem Rm.deeper {d:Nat}{A:Around}(r:Rm (d+1) A)(env:Env):Rm d (A.deeper env) :=
 ⟨r.handled,by have:=r.depth;show A.depth+1+2*d<_;exact ln3 [(.lt (.a .v0 (.m 2 (.a .v1 .k1))) .v2)] (.lt (.a (.a .v0 .k1) (.m 2 .v1)) .v2) (.d 111) rfl this,by have:=r.units;show A.units+3+8*d+40<_;exact ln3 [(.lt (.a (.a .v0 (.m 8 (.a .v1 .k1))) (.k 40)) .v2)] (.lt (.a (.a (.a .v0 (.k 3)) (.m 8 .v1)) (.k 40)) .v2) (.d 111) rfl this,let ⟨fs,h⟩:=r.fr;⟨env::fs,by show A.frames.map (env::·)=_;rw[h];rfl⟩⟩
theorem Rm.under {d : Nat} {A : Around} (r : Rm (d + 1) A) (env : Env) (C : Addr) (vs : List Value) : Rm d ((A.deeper env).under (.builtin "type.__call__" ⟨.ref C :: vs, []⟩)) :=
 ⟨r.handled,by have:=r.depth;show A.depth+1+1+2*d<_;exact ln3 [(.lt (.a .v0 (.m 2 (.a .v1 .k1))) .v2)] (.lt (.a (.a (.a .v0 .k1) .k1) (.m 2 .v1)) .v2) (.d 111) rfl this,by have:=r.units;show A.units+3+1+8*d+40<_;exact ln3 [(.lt (.a (.a .v0 (.m 8 (.a .v1 .k1))) (.k 40)) .v2)] (.lt (.a (.a (.a (.a .v0 (.k 3)) .k1) (.m 8 .v1)) (.k 40)) .v2) (.d 111) rfl this,let ⟨fs,h⟩:=r.fr;⟨env::fs,by show A.frames.map (env::·)=_;rw[h];rfl⟩⟩
structure TyOK (K:Kx):Prop where
 int : K.tyv 0 = .type "int"
 bool : K.tyv 1 = .type "bool"
 tuple : K.tyv 2 = .type "tuple"
 list : K.tyv 3 = .type "list"
theorem Zd3:∀(l:List Int) (m:Int),(Wh l m=m∨Wh l m∈l)∧m≤Wh l m∧∀a∈l,a≤Wh l m
 | [],m=>⟨.inl rfl,Int.le_refl _,fun u_ h=>nomatch h⟩
 | x::r,m=>by
  have key:∀m',(m'=m∨m'=x)→m≤m'→x≤m'→Wh (x::r) m=Wh r m'→(Wh (x::r) m=m∨Wh (x::r) m∈x::r)∧m≤Wh (x::r) m∧∀a∈x::r,a≤Wh (x::r) m:=by
   intro m' h1 h2 h3 e
   refine rAA (fun g1 g2 g3=>?_) (Zd3 r m')
   rw[e]
   refine ⟨?_,Int.le_trans h2 g2,fun a ha=>?_⟩
   ·rcases g1 with g1 | g1
    ·rw[g1]
     rcases h1 with h1 | h1
     ·exact .inl h1
     ·exact .inr (h1▸List.mem_cons_self)
    ·exact .inr (List.mem_cons_of_mem _ g1)
   ·rcases List.mem_cons.mp ha with rfl | ha
    ·exact Int.le_trans h3 g2
    ·exact g3 a ha
  by_cases h:m<x
  ·exact key x (.inr rfl) (Int.le_of_lt h) (Int.le_refl _) (by rw[Wh,if_pos h])
  ·exact key m (.inl rfl) (Int.le_refl _) (Int.not_lt.mp h) (by rw[Wh,if_neg h])
theorem Zd4:∀(l:List Int) (m:Int),(Wi l m=m∨Wi l m∈l)∧Wi l m≤m∧∀a∈l,Wi l m≤a
 | [],m=>⟨.inl rfl,Int.le_refl _,fun u_ h=>nomatch h⟩
 | x::r,m=>by
  have key:∀m',(m'=m∨m'=x)→m'≤m→m'≤x→Wi (x::r) m=Wi r m'→(Wi (x::r) m=m∨Wi (x::r) m∈x::r)∧Wi (x::r) m≤m∧∀a∈x::r,Wi (x::r) m≤a:=by
   intro m' h1 h2 h3 e
   refine rAA (fun g1 g2 g3=>?_) (Zd4 r m')
   rw[e]
   refine ⟨?_,Int.le_trans g2 h2,fun a ha=>?_⟩
   ·rcases g1 with g1 | g1
    ·rw[g1]
     rcases h1 with h1 | h1
     ·exact .inl h1
     ·exact .inr (h1▸List.mem_cons_self)
    ·exact .inr (List.mem_cons_of_mem _ g1)
   ·rcases List.mem_cons.mp ha with rfl | ha
    ·exact Int.le_trans g2 h3
    ·exact g3 a ha
  by_cases h:x<m
  ·exact key x (.inr rfl) (Int.le_of_lt h) (Int.le_refl _) (by rw[Wi,if_pos h])
  ·exact key m (.inl rfl) (Int.le_refl _) (Int.not_lt.mp h) (by rw[Wi,if_neg h])
section
variable {K:Kx}{A:Around}
theorem Zah :∀{l:List V}{ns:List Int}{vs:List Value},Ue l=some ns→RVs K ρ h l vs→∃ys:List (Int×Tok),vs=ys.map (fun p=>Value.int p.1 p.2)∧ys.map (·.1)=ns
 | [],ns,vs,e,r=>by refine siE e ?_;cases r;exact ⟨[],rfl,rfl⟩
 | v::l,ns,vs,e,r=>by
  cases r with
  | cons r0 r1=>
   cases v with
   | int i=>
    cases r0
    simp only[Ue,Option.map_eq_some_iff] at e
    revert e;refine rEA fun ns' h1 hO2=>?_;refine eqE hO2 ?_
    refine rEA (fun ys hO1 h2=>?_) (Zah h1 r1);refine eqS hO1 ?_
    exact ⟨(i,_)::ys,rfl,by rw[List.map_cons,h2]⟩
   | _=>exact nn e
theorem W5 {ys:List (Int×Tok)}{i:Nat}:numAt ys.toArray i=((ys.map (·.1))[i]?).getD 0:=by
 unfold numAt;simp
theorem Zgn (ns:List Int):preSum (fun i=>(ns[i]?).getD 0) ns.length=ns.sum:=by
 have:∀k,k≤ns.length→preSum (fun i=>(ns[i]?).getD 0) k=(ns.take k).sum:=by
  intro k
  induction k with
  | zero=>intro _;simp[preSum]
  | succ k ih=>
   intro hk
   have hlt:k<ns.length:=by exact ln2 [(.le (.a .v0 .k1) .v1)] (.lt .v0 .v1) (.d 111) rfl hk
   rw[preSum,ih (by exact ln2 [(.le (.a .v0 .k1) .v1)] (.le .v0 .v1) (.d 111) rfl hk),List.take_succ_eq_append_getElem hlt,List.sum_append]
   simp[hlt]
 rw[this _ (Nat.le_refl _),List.take_length]
theorem Jf {P:Prop}{dc:Decidable P}{α:Type}{x:Option α}{a:α}(h:(if P then x else .none)=some a):P∧x=some a:=by
 by_cases hp:P
 ·rw[if_pos hp] at h;exact ⟨hp,h⟩
 ·rw[if_neg hp] at h;exact nn h
theorem Zkk {x:V}{t:Nat}{r:Bool}(h:Zt0 σ x t=some r){cx:Value}(hr:HR K ρ σ s.heap)(rx:RV K ρ s.heap x cx)(ty:TyOK K) :
  TR K A (call (.builtin "isinstance") [cx, K.tyv t]) ρ s σ fun ρ' cv s' => RV K ρ' s'.heap (.bool r) cv := by
 have ok:∀r tk,(∃ρ',Good K ρ s ρ' σ { s with toks:=tk }∧RV K ρ' s.heap (.bool r) (.bool r)):=fun r tk=>⟨ρ,(Good.refl hr).tok _,.bool r⟩
 cases x with
 | int i=>
  refine rE (fun tk hO1=>?_) (rx.intI rfl);refine eqS hO1 ?_
  have h:(if t=0 then some true else if t=1 then some false else Option.none)=some r:=h
  by_cases e:t=0
  ·rw[if_pos e] at h;refine siE h ?_;rw[e,ty.int];exact IsiPair.int_int (ok _ s.toks)
  ·rw[if_neg e] at h
   refine rA (fun e h=>?_) (Jf h)
   refine siE h ?_;rw[e,ty.bool];exact IsiPair.int_bool (ok _ _)
 | tup l=>
  refine Ym (fun a vs hO2 e0 u4_=>?_) (rx.tupI rfl);refine eqS hO2 ?_
  refine rA (fun e h=>?_) (Jf (show (if t=2 then some true else Option.none)=some r from h))
  refine siE h ?_;rw[e,ty.tuple];exact IsiPair.tuple_tuple e0 rfl (ok _ s.toks)
 | obj n=>
  refine rEA (fun l hn h=>?_) (Option.bind_eq_some_iff.mp (show (Yg σ (.obj n)).bind _=some r from h))
  refine Us (fun a vs n' hO e0 u3_=>?_) (Yw hr hn rx);refine eqS hO ?_
  refine rA (fun e h=>?_) (Jf (show (if t=3 then some true else Option.none)=some r from h))
  refine siE h ?_;rw[e,ty.list];exact IsiPair.list_list e0 rfl (ok _ s.toks)
 | _=>exact nn h
theorem Zoi {ys:List (Int×Tok)}{x:Int}{r:List Int}(hy:ys.map (·.1)=x::r):numAt ys.toArray (argBest (fun i j=>decide (numAt ys.toArray i>numAt ys.toArray j)) (ys.toArray.size-1))=Wh r x:=by
 refine rA (fun h1 h2=>?_) (argBest_gt (numAt ys.toArray) (ys.toArray.size-1))
 refine rAA (fun m1 m2 m3=>?_) (Zd3 r x)
 have hlen2:ys.toArray.size=r.length+1:=by have:=congrArg List.length hy;simpa using this
 apply Int.le_antisymm
 ·rw[W5,hy]
  have hb:argBest (fun i j=>decide (numAt ys.toArray i>numAt ys.toArray j)) (ys.toArray.size-1)<(x::r).length:=by rw[List.length_cons];exact ln4 [(.le .v0 .v2),(.eq .v3 (.a .v1 .k1)),(.sb .v2 .v3 .k1)] (.lt .v0 (.a .v1 .k1)) (.s (.d 1111001) (.d 1110001)) rfl h1 hlen2 (Zd _ _)
  rw[List.getElem?_eq_getElem hb]
  have hm:=List.getElem_mem hb
  rcases List.mem_cons.mp hm with h | h
  ·exact Int.le_trans (Int.le_of_eq h) m2
  ·exact m3 _ h
 ·have : Wh r x ∈ x :: r := by
   rcases m1 with h | h
   ·rw[h];exact List.mem_cons_self
   ·exact List.mem_cons_of_mem _ h
  refine rE (fun j hO1=>?_) (List.getElem_of_mem this);obtain ⟨hj,hje⟩:=hO1
  have hj':j≤ys.toArray.size-1:=by simp only[List.length_cons] at hj;exact ln4 [(.eq .v2 (.a .v3 .k1)),(.lt .v0 (.a .v3 .k1)),(.sb .v1 .v2 .k1)] (.le .v0 .v1) (.s (.d 11011001) (.d 11011101)) rfl hlen2 hj (Zd _ _)
  have:=h2 j hj'
  rw[W5 (i:=j),hy,List.getElem?_eq_getElem hj] at this
  exact hje▸this
theorem Zoj {ys:List (Int×Tok)}{x:Int}{r:List Int}(hy:ys.map (·.1)=x::r):numAt ys.toArray (argBest (fun i j=>decide (numAt ys.toArray i<numAt ys.toArray j)) (ys.toArray.size-1))=Wi r x:=by
 refine rA (fun h1 h2=>?_) (argBest_lt (numAt ys.toArray) (ys.toArray.size-1))
 refine rAA (fun m1 m2 m3=>?_) (Zd4 r x)
 have hlen2:ys.toArray.size=r.length+1:=by have:=congrArg List.length hy;simpa using this
 apply Int.le_antisymm
 ·have : Wi r x ∈ x :: r := by
   rcases m1 with h | h
   ·rw[h];exact List.mem_cons_self
   ·exact List.mem_cons_of_mem _ h
  refine rE (fun j hO1=>?_) (List.getElem_of_mem this);obtain ⟨hj,hje⟩:=hO1
  have hj':j≤ys.toArray.size-1:=by simp only[List.length_cons] at hj;exact ln4 [(.eq .v2 (.a .v3 .k1)),(.lt .v0 (.a .v3 .k1)),(.sb .v1 .v2 .k1)] (.le .v0 .v1) (.s (.d 11011001) (.d 11011101)) rfl hlen2 hj (Zd _ _)
  have:=h2 j hj'
  rw[W5 (i:=j),hy,List.getElem?_eq_getElem hj] at this
  exact hje▸this
 ·rw[W5,hy]
  have hb:argBest (fun i j=>decide (numAt ys.toArray i<numAt ys.toArray j)) (ys.toArray.size-1)<(x::r).length:=by rw[List.length_cons];exact ln4 [(.le .v0 .v2),(.eq .v3 (.a .v1 .k1)),(.sb .v2 .v3 .k1)] (.lt .v0 (.a .v1 .k1)) (.s (.d 1111001) (.d 1110001)) rfl h1 hlen2 (Zd _ _)
  rw[List.getElem?_eq_getElem hb]
  have hm:=List.getElem_mem hb
  rcases List.mem_cons.mp hm with h | h
  ·exact Int.le_trans m2 (Int.le_of_eq h.symm)
  ·exact m3 _ h
theorem Zaz {as:List V}{x:V}(h:Zbh as=some x){cas:List Value}(ra:RVs K ρ h' as cas):∃c,cas=[c]∧RV K ρ h' x c:=by
 rw[Zau h] at ra
 refine Ym (fun u0_ u1_ hO2 r0 rn=>?_) (ra.consI);refine eqS hO2 ?_
 obtain rfl:=rn.nilI;exact ⟨_,rfl,r0⟩
theorem Zgo {as:List V}{p:V×V}(h:Zhx as=some p){cas:List Value}(ra:RVs K ρ h' as cas):∃c d,cas=[c,d]∧RV K ρ h' p.1 c∧RV K ρ h' p.2 d:=by
 rw[Zf9 h] at ra
 refine Ym (fun u0_ u1_ hO2 r0 rn=>?_) (ra.consI);refine eqS hO2 ?_
 refine byC fun hX=>?_;obtain ⟨_,_,rfl,r1,rn⟩:=rn.consI;refine hX ?_;clear hX
 obtain rfl:=rn.nilI;exact ⟨_,_,rfl,r0,r1⟩
theorem Zcu {f:List Int→Int→Int}{as:List V}{v:V}(h:Zcp f σ as=some (v,σ')){cas:List Value}(hr:HR K ρ σ s.heap)(ra:RVs K ρ s.heap as cas) :
  ∃(a:Addr) (ys:List (Int×Tok)) (n:Nat),cas=[.ref a]∧s.heap.IsList a (intItems ys.toArray)∧0<ys.toArray.size∧σ'=σ∧∃x r,ys.map (·.1)=x::r∧v=.int (f r x)∧n=0:=by
 refine Zw (h) fun w hw h'=>?_
 refine Zw (h') fun ns hns h''=>?_
 refine Zw (hns) fun l hl hn=>?_
 refine rEA (fun c hO1 r0=>?_) (Zaz hw ra);refine eqS hO1 ?_
 refine byC fun hX=>?_;refine U7 (fun a vs n' hO3 e0 rs hlen=>?_) (Yw hr hl r0);obtain rfl:=hO3;refine hX ?_;clear hX
 refine byC fun hX=>?_;refine rEA (fun ys hO1 hy=>?_) (Zah hn rs);obtain rfl:=hO1;refine hX ?_;clear hX
 cases ns with
 | nil=>exact nn h''
 | cons x r=>
  refine byC fun hX=>?_;refine rA (fun hO0 hO1=>?_) (pJ h'');obtain rfl:=hO0;obtain rfl:=hO1;refine hX ?_;clear hX
  refine ⟨a,ys,0,rfl,⟨_,e0,rfl,n',by simp[intItems]⟩,?_,rfl,x,r,hy,rfl,rfl⟩
  have:=congrArg List.length hy
  simp only[List.length_map,List.length_cons] at this
  simp only[List.size_toArray];lia
theorem Zd5 {f:Int→Int→Int}{as:List V}{v:V}(h:Zrs f σ as=some (v,σ')){h0:Heap}{cas:List Value}(ra:RVs K ρ h0 as cas) :
  ∃x t y u,cas=[.int x t,.int y u]∧v=.int (f x y)∧σ'=σ:=by
 refine Zw (h) fun p hp h'=>?_
 refine Zw (h') fun x hx h''=>?_
 refine Jx (h'') fun y hy e=>?_
 refine piE e ?_
 refine Ym (fun c d hO2 r0 r1=>?_) (Zgo hp ra);refine eqS hO2 ?_
 rw[Y9 hx] at r0
 rw[Y9 hy] at r1
 refine byC fun hX=>?_;refine rE (fun u0_ hO1=>?_) (r0.intI rfl);obtain rfl:=hO1;refine hX ?_;clear hX;refine byC fun hX=>?_;refine rE (fun u0_ hO1=>?_) (r1.intI rfl);obtain rfl:=hO1;refine hX ?_;clear hX
 exact ⟨_,_,_,_,rfl,rfl,rfl⟩
theorem Zkl {b:Blt}{as:List V}{v:V}(h:Wa b as σ=some (v,σ'))(hb:b≠.sorted){cas:List Value}(hr:HR K ρ σ s.heap)(ra:RVs K ρ s.heap as cas)(hh:b≠.isinstance→b≠.int→A.handled=none)(ty:TyOK K) :
  TR K A (call (Zbj b) cas) ρ s σ' fun ρ' cv s'=>RV K ρ' s'.heap v cv:=by
 cases b with
 | sorted=>exact absurd rfl hb
 | len=>
  refine Zw (h) fun w hw h'=>?_
  refine Jx (h') fun l hl e=>?_
  refine piE e ?_
  refine rEA (fun c hO1 r0=>?_) (Zaz hw ra);refine eqS hO1 ?_
  refine byC fun hX=>?_;refine Xl (fun a vs hO2 hobj rs hlen=>?_) (Zbk hr hl r0);obtain rfl:=hO2;refine hX ?_;clear hX
  unfold Zl at hlen
  have hlv:=rs.length
  have hsz:vs.toArray.size=l.length:=hlv.symm
  rcases hobj with ⟨n,e0⟩ | e0
  ·refine Calls.call_len_list ⟨_,e0,rfl,n,rfl⟩ (by lia) ?_
   rw[hsz];exact ⟨ρ,(Good.refl hr).tok _,.int _ _⟩
  ·refine len_tuple ⟨_,e0,rfl,0,rfl⟩ (by lia) ?_
   rw[hsz];exact ⟨ρ,(Good.refl hr).tok _,.int _ _⟩
 | max=>
  simp only[Wa] at h
  split at h
  ·refine Zar (fun a ys u2_ hO3 hL hne hO6 x r hy hO10 u11_=>?_) (Zcu h hr ra);refine eqS hO3 ?_;refine eqS hO6 ?_;refine eqS hO10 ?_
   refine max_intList (xs:=ys.toArray) (hh (by decide) (by decide)) hL hne fun v h' tk hv hk=>⟨ρ,Good.grow hr hk _,?_⟩
   refine rE (fun t hO1=>?_) (intItems_at hv);refine eqS hO1 ?_
   rw[Zoi hy];exact .int _ _
  ·refine Ziw (fun x t y u hO4 hO5 hO6=>?_) (Zd5 h ra);refine eqS hO4 ?_;refine eqS hO5 ?_;refine eqS hO6 ?_
   refine max_two_ints (hh (by decide) (by decide)) fun h' tk hk=>⟨ρ,Good.grow hr hk _,?_⟩
   split <;> exact .int _ _
 | min=>
  simp only[Wa] at h
  split at h
  ·refine Zar (fun a ys u2_ hO3 hL hne hO6 x r hy hO10 u11_=>?_) (Zcu h hr ra);refine eqS hO3 ?_;refine eqS hO6 ?_;refine eqS hO10 ?_
   refine min_intList (xs:=ys.toArray) (hh (by decide) (by decide)) hL hne fun v h' tk hv hk=>⟨ρ,Good.grow hr hk _,?_⟩
   refine rE (fun t hO1=>?_) (intItems_at hv);refine eqS hO1 ?_
   rw[Zoj hy];exact .int _ _
  ·refine Ziw (fun x t y u hO4 hO5 hO6=>?_) (Zd5 h ra);refine eqS hO4 ?_;refine eqS hO5 ?_;refine eqS hO6 ?_
   refine min_two_ints (hh (by decide) (by decide)) fun h' tk hk=>⟨ρ,Good.grow hr hk _,?_⟩
   split <;> exact .int _ _
 | int=>
  refine Zw (h) fun w hw h'=>?_
  refine rEA (fun c hO1 r0=>?_) (Zaz hw ra);refine eqS hO1 ?_
  cases r0 with
  | bool x=>refine byC fun hX=>?_;refine rA (fun hO0 hO1=>?_) (pJ h');obtain rfl:=hO0;obtain rfl:=hO1;refine hX ?_;clear hX;exact call_int_bool ⟨ρ,(Good.refl hr).tok _,.int _ _⟩
  | int x t=>refine byC fun hX=>?_;refine rA (fun hO0 hO1=>?_) (pJ h');obtain rfl:=hO0;obtain rfl:=hO1;refine hX ?_;clear hX;exact call_int_int ⟨ρ,Good.refl hr,.int _ _⟩
  | _=>exact nn h'
 | list=>
  refine Zw (h) fun w hw h'=>?_
  refine Zw (h') fun l hl e=>?_
  refine rAA (fun hlen hO1 hO2=>?_) (Uu e);refine eqS hO1 ?_;refine eqS hO2 ?_
  refine byC fun hX=>?_;refine rEA (fun c hO1 r0=>?_) (Zaz hw ra);obtain rfl:=hO1;refine hX ?_;clear hX
  refine byC fun hX=>?_;refine U7 (fun a vs n' hO3 e0 rs u6_=>?_) (Yw hr hl r0);obtain rfl:=hO3;refine hX ?_;clear hX
  refine call_list_seq (hsz:=Ug rs hlen) a (.inl rfl) e0 rfl rfl fun h' c' hk hD=>?_
  refine ⟨ρ++[s.heap.objs.size],Good.alloc (o:=.list l) hr hk (get?_size _) ⟨vs,c',hD,rs.mono (List.prefix_append _ _) (fun a vs e=>hk _ _ e),hlen⟩ _,.obj ?_⟩
  rw[List.getElem?_append_right (by rw[hr.len];exact Nat.le_refl _),hr.len];simp
 | sum=>
  refine Zw (h) fun w hw h'=>?_
  refine Jx (h') fun ns hi e=>?_
  refine piE e ?_
  refine Zw (hi) fun l hl hn=>?_
  refine rEA (fun c hO1 r0=>?_) (Zaz hw ra);refine eqS hO1 ?_
  refine byC fun hX=>?_;refine U7 (fun a vs n' hO3 e0 rs hlen=>?_) (Yw hr hl r0);obtain rfl:=hO3;refine hX ?_;clear hX
  refine byC fun hX=>?_;refine rEA (fun ys hO1 hy=>?_) (Zah hn rs);obtain rfl:=hO1;refine hX ?_;clear hX
  refine sum_intListG (xs:=ys.toArray) (hh (by decide) (by decide)) ⟨_,e0,rfl,n',by simp[intItems]⟩ fun h' tk t' hk=>⟨ρ,Good.grow hr hk _,?_⟩
  have e:preSum (numAt ys.toArray) ys.toArray.size=ns.sum:=by
   have e1:numAt ys.toArray=fun i=>(ns[i]?).getD 0:=by funext i;rw[W5,hy]
   have e2:ys.toArray.size=ns.length:=by rw[← hy];simp
   rw[e1,e2,Zgn]
  rw[e];exact .int _ _
 | isinstance=>
  refine Zw (h) fun p hp h'=>?_
  refine Zw (h') fun t ht h''=>?_
  refine Jx (h'') fun r hi e=>?_
  refine piE e ?_
  refine Ym (fun c d hO2 r0 r1=>?_) (Zgo hp ra);refine eqS hO2 ?_
  generalize p.2=y at ht r1
  cases r1 with
  | ty t'=>obtain rfl:=Option.some.inj ht;exact Zkk hi hr r0 ty
  | _=>exact nn ht
end
structure StepX (X:List Addr)(ρ:List Addr)(s:Shared)(ρ':List Addr)(s':Shared):Prop where
 pre:ρ <+: ρ'
 fr:∀b o,ng s.heap b=some o→b ∉ ρ→b ∉ X→ng s'.heap b=some o
 fresh:∀a,a∈ρ'→a∈ρ∨s.heap.get? a=none
 gens:s'.gens=s.gens
 os:s'.os=s.os
theorem Step.toX (x:Step ρ s ρ' s')(X:List Addr):StepX X ρ s ρ' s':=⟨x.pre,fun b o e h u_=>x.fr b o e h,x.fresh,x.gens,x.os⟩
theorem StepX.nil (x:StepX [] ρ s ρ' s'):Step ρ s ρ' s':=⟨x.pre,fun b o e h=>x.fr b o e h (by simp),x.fresh,x.gens,x.os⟩
theorem StepX.refl (X ρ:List Addr)(s:Shared):StepX X ρ s ρ s:=(Step.refl ρ s).toX X
theorem StepX.trans {X ρ2:List Addr}{s2:Shared}(x:StepX X ρ s ρ1 s1)(y:StepX X ρ1 s1 ρ2 s2)(hs:∀a∈X,∃o,s1.heap.get? a=some o):StepX X ρ s ρ2 s2 where
 pre:=x.pre.trans y.pre
 fr:=fun b o e hb hx=>y.fr b o (x.fr b o e hb hx) (fun h1=>by
  rcases x.fresh b h1 with h | h
  ·exact hb h
  ·rw[ng_none.mpr h] at e;exact nn e) hx
 fresh:=fun a ha=>by
  rcases y.fresh a ha with h | h
  ·exact x.fresh a h
  ·by_cases hr:a∈ρ
   ·exact .inl hr
   ·right
    cases hg:s.heap.get? a with
    | none=>rfl
    | some o=>
     by_cases hx:a∈X
     ·refine rE (fun o' e'=>?_) (hs a hx);rw[e'] at h;exact ns h
     ·have:=x.fr a _ (J7 hg) hr hx;rw[ng_none.mpr h] at this;exact nn this
 gens:=y.gens.trans x.gens
 os:=y.os.trans x.os
section
variable {K:Kx}{A:Around}
theorem HR.but {I:Addr}(x:HR K ρ σ h)(hI:I ∉ ρ)(h0:K.h0.get? I=none)(hc:∀vs,h.get? I≠some (Zz vs))(hk:∀b o,b≠I→h.get? b=some o→h'.get? b=some o):HR K ρ σ h':=by
 refine ⟨fun b o e=>hk b o (by rintro rfl;rw[h0] at e;exact nn e) (x.keep b o e),x.len,x.nd,x.new,fun n o a h1 h2=>?_⟩
 have ho:=x.obj n o a h1 h2
 have ha:a≠I:=by rintro rfl;exact hI (List.mem_of_getElem? h2)
 exact ho.move (List.prefix_refl _) (fun b ws eb=>hk _ _ (by rintro rfl;exact hc _ eb) eb) fun o e=>Uz (fun o e=>hk _ _ ha e) e
theorem RV.but {I:Addr}{v:V}{x:Value}(r:RV K ρ h v x)(hc:∀vs,h.get? I≠some (Zz vs))(hk:∀b o,b≠I→h.get? b=some o→h'.get? b=some o):RV K ρ h' v x :=
 r.mono (List.prefix_refl _) fun b ws eb=>hk _ _ (by rintro rfl;exact hc _ eb) eb
theorem RVs.but {I:Addr}{v:List V}{x:List Value}(r:RVs K ρ h v x)(hc:∀vs,h.get? I≠some (Zz vs))(hk:∀b o,b≠I→h.get? b=some o→h'.get? b=some o):RVs K ρ h' v x :=
 r.mono (List.prefix_refl _) fun b ws eb=>hk _ _ (by rintro rfl;exact hc _ eb) eb
theorem Ns.not_tup {a:Addr}{m:Str→Option Value}(x:h.Ns a m):∀vs,h.get? a≠some (Zz vs):=by
 intro vs e
 revert x;refine Us fun o es ep e' hd u5_=>?_
 rw[e] at e';cases e';cases hd
theorem IsCell.not_tup {a:Addr}{v:Option Value}(x:h.IsCell a v):∀vs,h.get? a≠some (Zz vs):=by
 intro vs e
 revert x;refine rEA fun o e' hd=>?_
 rw[e] at e';cases e';cases hd
theorem IsCell.nd {a:Addr}{v:Option Value}(x:h.IsCell a v):∀o,h.get? a=some o→¬ dy o:=by
 intro o e ⟨es,ep,hd'⟩
 revert x;refine rEA fun o' e' hd=>?_
 rw[e] at e';cases e';rw[hd'] at hd;cases hd
noncomputable def Yl (env:Env):List Addr:=env.locals::env.cells.map (·.2)
theorem Zai {env:Env}{a:Addr}(h:a∈Yl env):a=env.locals∨∃x,(x,a)∈env.cells:=by
 rcases List.mem_cons.mp h with h | h
 ·exact .inl h
 ·refine byC fun hX=>?_;refine rEA (fun hO0 h1 hO2=>?_) (List.mem_map.mp h);obtain ⟨x,b⟩:=hO0;obtain rfl:=hO2;refine hX ?_;clear hX;exact .inr ⟨x,h1⟩
set_option tactic.hygienic true in
theorem Zaj {i:Nat}{v:V}(h:Qh ℓ i v=some ℓ'):i<ℓ.length∧∀j:Nat,ℓ'[j]?=if j=i then some (some v) else ℓ[j]?:=by
 unfold Qh at h
 split at h
 ·rename_i hi
  obtain rfl:=Option.some.inj h
  refine ⟨hi,fun j=>?_⟩
  by_cases hj:j=i
  ·subst hj;simp[hi]
  ·rw[if_neg hj,List.getElem?_set_ne (fun e=>hj e.symm)]
 ·exact nn h
theorem FO.X_some {env:Env}{c:CEnv}(x:FO K A env c ℓ ρ h):∀a∈Yl env,∃o,h.get? a=some o:=by
 intro a ha
 rcases Zai ha with rfl | ⟨y,hy⟩
 ·refine rEA (fun m hn u2_=>?_) x.ns;exact Ns.ex hn
 ·refine Zac (fun u0_ u1_ u2_ o e u5_=>?_) (x.cnew y a hy);exact ⟨o,e⟩
theorem FO.X_nt {env:Env}{c:CEnv}(x:FO K A env c ℓ ρ h):∀a∈Yl env,∀vs,h.get? a≠some (Zz vs):=by
 intro a ha vs e
 rcases Zai ha with rfl | ⟨y,hy⟩
 ·refine rEA (fun m hn u2_=>?_) x.ns;exact Ns.not_tup hn vs e
 ·refine Zac (fun u0_ u1_ u2_ o eo hne=>?_) (x.cnew y a hy)
  rw[e] at eo;obtain rfl:=Option.some.inj eo;exact hne _ _ rfl
theorem StepX.ex {X:List Addr}(x:StepX X ρ s ρ' s'){b:Addr}{o:Obj}(e:s.heap.get? b=some o)(hb:b ∉ ρ)(hX:b ∉ X)(hc:¬ dy o):s'.heap.get? b=some o:=Zi3 hc (x.fr b _ (J7 e) hb hX)
theorem StepX.tups {X:List Addr}(x:StepX X ρ s ρ' s')(hr:HR K ρ σ s.heap)(hX:∀a∈X,∀vs,s.heap.get? a≠some (Zz vs)):∀a vs,s.heap.get? a=some (Zz vs)→s'.heap.get? a=some (Zz vs) :=
 fun a vs e=>x.ex e (fun ha=>by
  refine rEA (fun ob h1 h2=>?_) (hr.at_ ha)
  rw[e] at h1;obtain rfl:=Option.some.inj h1;exact h2 _ rfl) (fun ha=>hX a ha vs e) nfT
set_option tactic.hygienic true in
theorem Jn {env:Env}{c:CEnv}(fo:FO K A env c ℓ ρ s.heap)(hr:HR K ρ σ s.heap){x:Str}{i:Nat}{v:V}{cv:Value}(hx:Um c x=some i)(hs:Qh ℓ i v=some ℓ')
  (rv:RV K ρ s.heap v cv) {Q:Unit→Shared→Prop}{E:Value→Shared→Prop} (hq:∀s' a,(a=env.locals∨(c.names.lookup x=some .cell∧(x,a)∈env.cells))→HR K ρ σ s'.heap→StepX [a] ρ s ρ s'→FO K A env c ℓ' ρ s'.heap→Q () s'):wpAny K.M A (storeName env x cv) Q E s:=by
 refine rAA (fun hk u1_ hsl=>?_) (Zgc hx)
 refine rA (fun hi hset=>?_) (Zaj hs)
 have hlt:=fo.lt x i hsl
 have hfree:∀(j:Nat) w,c.next≤j→ℓ'[j]?≠some (some w):=fun j w hj=>by rw[hset,if_neg (by exact ln3 [(.lt .v1 .v2),(.le .v2 .v0)] (.no (.eq .v0 .v1)) (.d 11011) rfl hlt hj)];exact fo.free j w hj
 rcases hk with hk | hk
 ·refine rEA (fun m hn hm=>?_) fo.ns
  refine wpAny_storeName_local (show env.scope.names.lookup x=_ by rw[fo.names];exact hk) hn (fun h' hn' hs'=>?_) (by rw[fo.kind];rfl)
  have hnt:=Ns.not_tup hn
  have hbut:∀b o,b≠env.locals→s.heap.get? b=some o→h'.get? b=some o:=fun b o hb e=>(hs'.2 b hb).trans e
  refine hq _ _ (.inl rfl) (hr.but fo.lnew.1 fo.lnew.2 hnt hbut) ⟨List.prefix_refl _,fun b o e u_ hX=>Uz (fun o e=>hbut b o (fun e'=>hX (by rw[e'];exact List.mem_cons_self)) e) e,fun u_ h=>.inl h,rfl,rfl⟩ ?_
  refine ⟨fo.kind,fo.names,fo.glob,fo.blts,⟨_,hn',fun y j w h1 h2 h3=>?_⟩,fun y hy=>?_,fo.inj,fo.capart,fo.lnew,hfree,fo.lt,fo.ff.ns (fun b hb o e=>hbut b o hb e) hn',fun y a hy=>?_⟩
  ·rw[hset] at h3
   by_cases hji:j=i
   ·subst hji
    rw[if_pos rfl] at h3;cases h3
    obtain rfl:=fo.inj y x j h2 hsl
    exact ⟨cv,if_pos rfl,rv.but hnt hbut⟩
   ·rw[if_neg hji] at h3
    have hyx:y≠x:=by rintro rfl;rw[h2] at hsl;obtain rfl:=Option.some.inj hsl;exact hji rfl
    refine rEA (fun cw g1 g2=>?_) (hm y j w h1 h2 h3)
    exact ⟨cw,by rw[if_neg hyx];exact g1,g2.but hnt hbut⟩
  ·refine Ym (fun a o g1 g2 g3=>?_) (fo.cell y hy)
   have ha:a≠env.locals:=(fo.cnew y a (mem_of_lookup g1)).2.2.1
   refine ⟨a,o,g1,IsCell.at g2 fun o e=>hbut _ _ ha e,fun j w h2 h3=>?_⟩
   rw[hset] at h3
   have hji:j≠i:=by rintro rfl;obtain rfl:=fo.inj y x j h2 hsl;rw[hk] at hy;cases hy
   rw[if_neg hji] at h3
   refine rEA (fun cw g4 g5=>?_) (g3 j w h2 h3)
   exact ⟨cw,g4,g5.but hnt hbut⟩
  ·refine Zac (fun g1 g2 g3 o g4 g5=>?_) (fo.cnew y a hy)
   exact ⟨g1,g2,g3,o,hbut _ _ g3 g4,g5⟩
 ·refine Ym (fun ca co hca hcell hcv=>?_) (fo.cell x hk)
  refine Zb8 (fun c1 c2 c3 c4=>?_) (fo.cnew x ca (mem_of_lookup hca))
  refine wpAny_storeName_cell fo.kind (show env.scope.names.lookup x=_ by rw[fo.names];exact hk) hca hcell (fun h' hc' hs'=>?_)
  have hnt:=IsCell.not_tup hcell
  have hbut:∀b o,b≠ca→s.heap.get? b=some o→h'.get? b=some o:=fun b o hb e=>(hs'.2 b hb).trans e
  refine hq _ _ (.inr ⟨hk,mem_of_lookup hca⟩) (hr.but c1 c2 hnt hbut) ⟨List.prefix_refl _,fun b o e u_ hX=>Uz (fun o e=>hbut b o (fun e'=>hX (by rw[e'];exact List.mem_cons_self)) e) e,fun u_ h=>.inl h,rfl,rfl⟩ ?_
  refine rEA (fun m hn hm=>?_) fo.ns
  refine ⟨fo.kind,fo.names,fo.glob,fo.blts,⟨m,Ns.at hn fun o e=>hbut _ _ (fun e'=>c3 e'.symm) e,fun y j w h1 h2 h3=>?_⟩,fun y hy=>?_,fo.inj,fo.capart,fo.lnew,hfree,fo.lt,fo.ff.but (fun b hb o e=>hbut b o hb e) (IsCell.nd hcell),fun y a hy=>?_⟩
  ·rw[hset] at h3
   have hji:j≠i:=by rintro rfl;obtain rfl:=fo.inj y x j h2 hsl;rw[hk] at h1;cases h1
   rw[if_neg hji] at h3
   refine rEA (fun cw g4 g5=>?_) (hm y j w h1 h2 h3)
   exact ⟨cw,g4,g5.but hnt hbut⟩
  ·by_cases hyx:y=x
   ·subst hyx
    refine ⟨ca,some cv,hca,hc',fun j w h2 h3=>?_⟩
    rw[h2] at hsl;cases hsl
    rw[hset,if_pos rfl] at h3;cases h3
    exact ⟨cv,rfl,rv.but hnt hbut⟩
   ·refine Ym (fun a o g1 g2 g3=>?_) (fo.cell y hy)
    have ha:a≠ca:=by rintro rfl;exact hyx (fo.capart y x a (mem_of_lookup g1) (mem_of_lookup hca))
    refine ⟨a,o,g1,IsCell.at g2 fun o e=>hbut _ _ ha e,fun j w h2 h3=>?_⟩
    rw[hset] at h3
    have hji:j≠i:=by rintro rfl;exact hyx (fo.inj y x j h2 hsl)
    rw[if_neg hji] at h3
    refine rEA (fun cw g4 g5=>?_) (g3 j w h2 h3)
    exact ⟨cw,g4,g5.but hnt hbut⟩
  ·refine Zac (fun g1 g2 g3 o g4 g5=>?_) (fo.cnew y a hy)
   refine ⟨g1,g2,g3,?_⟩
   by_cases hac:a=ca
   ·subst hac;revert hc';refine rEA fun o' e' hd'=>?_;exact ⟨o',e',fun xs n hv=>by rw[hv] at hd';cases hd'⟩
   ·exact ⟨o,hbut _ _ hac g4,g5⟩
end
inductive ItK where
 | list (n:Nat) (ax:Addr)
 | tup (ax:Addr) (cvs:List Value)
 | frz (ax:Addr) (cvs:List Value) (m:Nat)
 | rng (a:Int) (m:Nat)
noncomputable def ItSt (K:Kx)(ρ:List Addr)(I:Addr)(i:Nat)(h:Heap):ItK→Prop
 | .list n ax=>ρ[n]?=some ax∧h.IsListIter I ax i
 | .tup ax cvs=>h.IsTupleIter I ax i∧h.get? ax=some (Zz cvs)
 | .frz ax cvs m=>h.IsListIter I ax i∧K.h0.get? ax=some (Yd cvs m)
 | .rng a m=>IsRangeIter h I (a+(i:Nat)*1) ((m:Int)-(i:Nat)) 1
noncomputable def ItV (K:Kx)(ρ:List Addr)(h:Heap)(src:Src):ItK→Prop
 | .list n _=>src.keep=fun σ'=>σ'[n]?=some (.list src.vs)
 | .tup _ cvs=>RVs K ρ h src.vs cvs∧src.keep=fun u_=>True
 | .frz _ cvs _=>RVs K ρ h src.vs cvs∧src.keep=fun u_=>True
 | .rng a m=>src.vs=(List.range m).map (fun k=>V.int (a+(k:Nat)))∧src.keep=fun u_=>True
structure ItOK (K:Kx)(ρ:List Addr)(I:Addr)(i:Nat)(h:Heap)(src:Src)(k:ItK):Prop where
 st:ItSt K ρ I i h k
 v:ItV K ρ h src k
 off:I ∉ ρ
 new:K.h0.get? I=none
section
variable {K:Kx}{A:Around}
theorem ItSt.obj {I : Addr} {i : Nat} {k : ItK} (x : ItSt K ρ I i h k) : ∃ o, h.get? I = some o ∧ o.cls ≠ .type "tuple" := by
 cases k with
 | list n ax=>revert x;refine Zqg fun u0_ o e hc u4_=>?_;exact ⟨o,e,by rw[hc];decide⟩
 | tup ax cvs=>revert x;refine rA fun hO0 u1_=>?_;revert hO0;refine J5 fun o e hc u3_=>?_;exact ⟨o,e,by rw[hc];decide⟩
 | frz ax cvs m=>revert x;refine rA fun hO0 u1_=>?_;revert hO0;refine J5 fun o e hc u3_=>?_;exact ⟨o,e,by rw[hc];decide⟩
 | rng a m => exact ⟨_, x, by show Value.type "range_iterator" ≠ Value.type "tuple"; decide⟩
theorem ItSt.nf {I:Addr}{i:Nat}{k:ItK}(x:ItSt K ρ I i h k){o:Obj}(e:h.get? I=some o):¬ dy o:=by
 intro hR0
 revert hR0;refine rEE fun es ep hd=>?_
 cases k with
 | list n ax=>revert x;refine Zqg fun u0_ o' e' hc hx=>?_;rw[e] at e';obtain rfl:=Option.some.inj e';rw[hd] at hx;cases hx
 | tup ax cvs=>revert x;refine rA fun hO0 u1_=>?_;revert hO0;refine J5 fun o' e' hc hx=>?_;rw[e] at e';obtain rfl:=Option.some.inj e';rw[hd] at hx;cases hx
 | frz ax cvs m=>revert x;refine rA fun hO0 u1_=>?_;revert hO0;refine J5 fun o' e' hc hx=>?_;rw[e] at e';obtain rfl:=Option.some.inj e';rw[hd] at hx;cases hx
 | rng a m=>
  have x:h.get? I=some _:=x
  rw[e] at x;obtain rfl:=Option.some.inj x;cases hd
theorem ItOK.not_tup {I:Addr}{i:Nat}{src:Src}{k:ItK}(x:ItOK K ρ I i h src k):∀vs,h.get? I≠some (Zz vs):=by
 intro vs e
 refine rEA (fun o e' hc=>?_) x.st.obj
 rw[e] at e';obtain rfl:=Option.some.inj e';exact hc rfl
theorem ItOK.move {I:Addr}{i:Nat}{src:Src}{k:ItK}(x:ItOK K ρ I i h src k)(hp:ρ <+: ρ')(hI:∀o,h.get? I=some o→h'.get? I=some o)(ht:∀a vs,h.get? a=some (Zz vs)→h'.get? a=some (Zz vs))(hoff:I ∉ ρ'):ItOK K ρ' I i h' src k:=by
 refine ⟨?_,?_,hoff,x.new⟩
 ·have h:=x.st
  cases k with
  | list n ax=>revert h;refine Zfz fun h1 o e h2=>?_;exact ⟨Wb hp h1,o,hI _ e,h2⟩
  | tup ax cvs=>revert h;refine rA fun hO0 h3=>?_;revert hO0;refine rEA fun o e h2=>?_;exact ⟨⟨o,hI _ e,h2⟩,ht _ _ h3⟩
  | frz ax cvs m=>revert h;refine rA fun hO0 h3=>?_;revert hO0;refine rEA fun o e h2=>?_;exact ⟨⟨o,hI _ e,h2⟩,h3⟩
  | rng a m=>exact hI _ h
 ·have h:=x.v
  cases k with
  | list n ax=>exact h
  | tup ax cvs=>exact ⟨h.1.mono hp ht,h.2⟩
  | frz ax cvs m=>exact ⟨h.1.mono hp ht,h.2⟩
  | rng a m=>exact h
theorem ItOK.ex0 {I:Addr}{i:Nat}{src:Src}{k:ItK}(x:ItOK K ρ I i h src k):∃o,h.get? I=some o:=let ⟨o,e,_⟩:=x.st.obj;⟨o,e⟩
theorem ItOK.step {I:Addr}{i:Nat}{src:Src}{k:ItK}(x:ItOK K ρ I i s.heap src k)(hr:HR K ρ σ s.heap)(st:Step ρ s ρ' s'):ItOK K ρ' I i s'.heap src k:=by
 refine rEA (fun o eo u2_=>?_) x.st.obj
 have hI:∀o,s.heap.get? I=some o→s'.heap.get? I=some o:=fun o e=>st.ex e x.off (x.st.nf e)
 refine ⟨?_,?_,fun hm=>?_,x.new⟩
 ·have h:=x.st
  cases k with
  | list n ax=>revert h;refine Zfz fun h1 o e h2=>?_;exact ⟨Wb st.pre h1,o,hI _ e,h2⟩
  | tup ax cvs=>revert h;refine rA fun hO0 h3=>?_;revert hO0;refine rEA fun o e h2=>?_;exact ⟨⟨o,hI _ e,h2⟩,st.tups hr _ _ h3⟩
  | frz ax cvs m=>revert h;refine rA fun hO0 h3=>?_;revert hO0;refine rEA fun o e h2=>?_;exact ⟨⟨o,hI _ e,h2⟩,h3⟩
  | rng a m=>exact hI _ h
 ·have h:=x.v
  cases k with
  | list n ax=>exact h
  | tup ax cvs=>exact ⟨h.1.step hr st,h.2⟩
  | frz ax cvs m=>exact ⟨h.1.step hr st,h.2⟩
  | rng a m=>exact h
 ·rcases st.fresh I hm with h | h
  ·exact x.off h
  ·rw[eo] at h;exact ns h
theorem ItOK.but {I D:Addr}{i:Nat}{src:Src}{k:ItK}(x:ItOK K ρ I i h src k)(hD:∀vs,h.get? D≠some (Zz vs))(hne:I≠D)(hk:∀b o,b≠D→h.get? b=some o→h'.get? b=some o):ItOK K ρ I i h' src k:=by
 refine ⟨?_,?_,x.off,x.new⟩
 ·have h:=x.st
  cases k with
  | list n ax=>revert h;refine Zfz fun h1 o e h2=>?_;exact ⟨h1,o,hk _ _ hne e,h2⟩
  | tup ax cvs=>revert h;refine rA fun hO0 h3=>?_;revert hO0;refine rEA fun o e h2=>?_;exact ⟨⟨o,hk _ _ hne e,h2⟩,hk _ _ (by rintro rfl;exact hD _ h3) h3⟩
  | frz ax cvs m=>revert h;refine rA fun hO0 h3=>?_;revert hO0;refine rEA fun o e h2=>?_;exact ⟨⟨o,hk _ _ hne e,h2⟩,h3⟩
  | rng a m=>exact hk _ _ hne h
 ·have h:=x.v
  cases k with
  | list n ax=>exact h
  | tup ax cvs=>exact ⟨h.1.but hD hk,h.2⟩
  | frz ax cvs m=>exact ⟨h.1.but hD hk,h.2⟩
  | rng a m=>exact h
theorem Zi8 {I:Addr}{i:Nat}{src:Src}{k:ItK}{v:V}(hh:A.handled=none)(x:ItOK K ρ I i s.heap src k)(hr:HR K ρ σ s.heap)(hkeep:src.keep σ)(hv:src.vs[i]?=some v)
  {Q:Option Value→Shared→Prop}{E:Value→Shared→Prop}
  (hq:∀cv h' tk,(∀b o,b≠I→s.heap.get? b=some o→h'.get? b=some o)→HR K ρ σ h'→RV K ρ h' v cv→ItOK K ρ I (i+1) h' src k→Q (some cv) { s with heap:=h',toks:=tk }) :
  wpAny K.M A (pyNext (.ref I)) Q E s:=by
 have hnt:=x.not_tup
 have key:∀cv h' tk,(∀b o,b≠I→s.heap.get? b=some o→h'.get? b=some o)→RV K ρ s.heap v cv→ItSt K ρ I (i+1) h' k→Q (some cv) { s with heap:=h',toks:=tk }:=by
  intro cv h' tk hk rv st
  refine hq cv h' tk hk (hr.but x.off x.new hnt hk) (rv.but hnt hk) ⟨st,?_,x.off,x.new⟩
  have h:=x.v
  cases k with
  | list n ax=>exact h
  | tup ax cvs=>exact ⟨h.1.but hnt hk,h.2⟩
  | frz ax cvs m=>exact ⟨h.1.but hnt hk,h.2⟩
  | rng a m=>exact h
 have hst:=x.st
 have hvv:=x.v
 cases k with
 | list n ax=>
  revert hst;refine rA fun h1 hit=>?_
  have hv':src.keep=fun σ'=>σ'[n]?=some (.list src.vs):=hvv
  rw[hv'] at hkeep
  refine Ym (fun cvs m e rs u4_=>?_) (hr.obj n _ ax hkeep h1)
  refine rEA (fun cv hc rv=>?_) (rs.get hv)
  refine wpAny_pyNext_list_item hit ⟨_,e,rfl,m,rfl⟩ (x:=cv) (by simpa using hc) fun h' hit' hs'=>?_
  exact key cv h' s.toks (fun b o hb e=>(hs'.2 b hb).trans e) rv ⟨h1,hit'⟩
 | tup ax cvs=>
  revert hst;refine rA fun hit e=>?_
  refine rEA (fun cv hc rv=>?_) (hvv.1.get hv)
  refine wpAny_pyNext_tuple_item hit ⟨_,e,rfl,0,rfl⟩ (x:=cv) (by simpa using hc) fun h' hit' hs'=>?_
  refine key cv h' s.toks (fun b o hb e=>(hs'.2 b hb).trans e) rv ⟨hit',(hs'.2 ax ?_).trans e⟩
  rintro rfl
  revert hit;refine J5 fun o e' hc' u3_=>?_
  rw [e] at e'; obtain rfl := Option.some.inj e'; exact absurd hc' (show ¬ Value.type "tuple" = Value.type "tuple_iterator" by decide)
 | frz ax cvs m=>
  revert hst;refine rA fun hit e=>?_
  refine rEA (fun cv hc rv=>?_) (hvv.1.get hv)
  refine wpAny_pyNext_list_item hit ⟨_,hr.keep _ _ e,rfl,m,rfl⟩ (x:=cv) (by simpa using hc) fun h' hit' hs'=>?_
  exact key cv h' s.toks (fun b o hb e=>(hs'.2 b hb).trans e) rv ⟨hit',e⟩
 | rng a m=>
  have hvs:src.vs=(List.range m).map (fun k=>V.int (a+(k:Nat))):=hvv.1
  have hi:i<m:=by have:=(List.getElem?_eq_some_iff.mp hv).1;rw[hvs] at this;simpa using this
  have ev:v=.int (a+(i:Nat)):=by rw[hvs] at hv;simp[hi] at hv;exact hv.symm
  subst ev
  refine (Walks.range hh I a 1 m).item i s Q E hi hst fun cv h' tk hP st' hk=>?_
  revert hP;refine rE fun t hO1=>?_;refine eqS hO1 ?_
  rw[Int.mul_one]
  exact key _ h' tk (fun b o hb e=>hk b o (by simpa using hb) e) (.int _ _) st'
theorem Zi9 {I:Addr}{i:Nat}{src:Src}{k:ItK}(hh:A.handled=none)(x:ItOK K ρ I i s.heap src k)(hr:HR K ρ σ s.heap)(hkeep:src.keep σ)(hv:i=src.vs.length)
  {Q:Option Value→Shared→Prop}{E:Value→Shared→Prop}
  (hq:∀h' tk,(∀b o,b≠I→s.heap.get? b=some o→h'.get? b=some o)→HR K ρ σ h'→Q none { s with heap:=h',toks:=tk }):wpAny K.M A (pyNext (.ref I)) Q E s:=by
 have hnt:=x.not_tup
 have key:∀h' tk,(∀b o,b≠I→s.heap.get? b=some o→h'.get? b=some o)→Q none { s with heap:=h',toks:=tk }:=fun h' tk hk=>hq h' tk hk (hr.but x.off x.new hnt hk)
 have hst:=x.st
 have hvv:=x.v
 cases k with
 | list n ax=>
  revert hst;refine rA fun h1 hit=>?_
  have hv':src.keep=fun σ'=>σ'[n]?=some (.list src.vs):=hvv
  rw[hv'] at hkeep
  refine Ym (fun cvs m e rs u4_=>?_) (hr.obj n _ ax hkeep h1)
  have:=rs.length
  exact wpAny_pyNext_list_end hh hit ⟨_,e,rfl,m,rfl⟩ (by simp;exact ln3 [(.eq .v1 .v2),(.eq .v2 .v0)] (.le .v0 .v1) (.d 110101) rfl hv this) fun h' hs'=>key h' s.toks fun b o hb e=>hs' b o hb e
 | tup ax cvs=>
  revert hst;refine rA fun hit e=>?_
  have:=hvv.1.length
  exact (Walks.tuple hh I ax (by rintro rfl; revert hit; refine J5 fun o e' hc' u3_ => ?_; rw [e] at e'; obtain rfl := Option.some.inj e'; exact absurd hc' (show ¬ Value.type "tuple" = Value.type "tuple_iterator" by decide)) cvs.toArray).done s Q E (by rw [List.size_toArray, ← this, ← hv]; exact ⟨hit, _, e, rfl, 0, rfl⟩) fun h' tk hk => key h' tk fun b o hb e => hk b o (by simpa using hb) e
 | frz ax cvs m=>
  revert hst;refine rA fun hit e=>?_
  have:=hvv.1.length
  exact wpAny_pyNext_list_end hh hit ⟨_,hr.keep _ _ e,rfl,m,rfl⟩ (by simp;exact ln3 [(.eq .v1 .v2),(.eq .v2 .v0)] (.le .v0 .v1) (.d 110101) rfl hv this) fun h' hs'=>key h' s.toks fun b o hb e=>hs' b o hb e
 | rng a m=>
  have hvs:src.vs=(List.range m).map (fun k=>V.int (a+(k:Nat))):=hvv.1
  have him:i=m:=by rw[hv,hvs];simp
  subst him
  exact (Walks.range hh I a 1 i).done s Q E hst fun h' tk hk=>key h' tk fun b o hb e=>hk b o (by simpa using hb) e
theorem Zok {I:Addr}{i:Nat}{src:Src}{k:ItK}(hh:A.handled=none)(x:ItOK K ρ I i s.heap src k){Q:Value→Shared→Prop}{E:Value→Shared→Prop}(hq:Q (.ref I) s) :
  wpAny K.M A (pyIter (.ref I)) Q E s:=by
 have hst:=x.st
 cases k with
 | list n ax=>exact wpAny_pyIter_listiter hst.2 hq
 | tup ax cvs=>
  revert hst;refine rA fun hit e=>?_
  exact (Walks.tuple hh I ax (by rintro rfl; revert hit; refine J5 fun o e' hc' u3_ => ?_; rw [e] at e'; obtain rfl := Option.some.inj e'; exact absurd hc' (show ¬ Value.type "tuple" = Value.type "tuple_iterator" by decide)) cvs.toArray).self i s Q E ⟨hit, _, e, rfl, 0, rfl⟩ hq
 | frz ax cvs m=>exact wpAny_pyIter_listiter hst.1 hq
 | rng a m=>exact (Walks.range hh I a 1 m).self i s Q E hst hq
theorem Good.tmp (hr:HR K ρ σ s.heap)(o:Obj)(t:Nat):Good K ρ s ρ σ { s with heap:=s.heap.push o,toks:=t }:=Good.grow hr (fun b o' e=>Heap.get?_push_of_some _ e) t
theorem Qw (hr:HR K ρ σ s.heap):s.heap.objs.size ∉ ρ∧K.h0.get? s.heap.objs.size=none:=by
 refine ⟨fun hm=>?_,?_⟩
 ·refine rEA (fun ob e u2_=>?_) (hr.at_ hm);rw[get?_size] at e;exact nn e
 ·cases e:K.h0.get? s.heap.objs.size with
  | none=>rfl
  | some o=>have:=hr.keep _ _ e;rw[get?_size] at this;exact nn this
set_option tactic.hygienic true in
theorem Zol {x:V}{src:Src}{cx:Value}
  (h:(match x with
   | .tup l=>some (R.ok (⟨l,fun u_=>True⟩ : Src),σ)
   | .frz l=>some (.ok ⟨l.map .int,fun u_=>True⟩,σ)
   | .obj n=>match σ[n]? with
    | some (.list l)=>some (.ok ⟨l,fun σ'=>σ'[n]?=some (.list l)⟩,σ)
    | _=>.none
   | _=>.none)=some (.ok src,σ)) (hr:HR K ρ σ s.heap) (rx:RV K ρ s.heap x cx)
  {Q:Value→Shared→Prop}{E:Value→Shared→Prop}
  (hq:∀h' k,Good K ρ s ρ σ { s with heap:=h' }→ItOK K ρ s.heap.objs.size 0 h' src k→src.keep σ→Q (.ref s.heap.objs.size) { s with heap:=h' }):wpAny K.M A (pyIter cx) Q E s:=by
 refine rA (fun f1 f2=>?_) (Qw hr)
 cases x with
 | tup l=>
  refine Xl (fun a vs hO2 e r hl=>?_) (rx.tupI rfl);refine eqS hO2 ?_
  cases h
  refine wpAny_pyIter_tuple ⟨_,e,rfl,0,rfl⟩ (hq _ (.tup a vs) (Good.tmp hr _ _) ⟨⟨⟨_,Heap.get?_push_size _ rfl,rfl,rfl⟩,Heap.get?_push_of_some _ e⟩,⟨r.mono (List.prefix_refl _) fun u_ v_ e=>Heap.get?_push_of_some _ e,rfl⟩,f1,f2⟩ trivial)
 | frz l=>
  cases rx with
  | frz e r hl=>
   rename_i a vs n
   cases h
   refine wpAny_pyIter_list ⟨_,hr.keep _ _ e,rfl,n,rfl⟩ (hq _ (.frz a vs n) (Good.tmp hr _ _) ⟨⟨⟨_,Heap.get?_push_size _ rfl,rfl,rfl⟩,e⟩,⟨r.mono (List.prefix_refl _) fun u_ v_ e=>Heap.get?_push_of_some _ e,rfl⟩,f1,f2⟩ trivial)
 | obj n=>
  refine rEA (fun a hO1 ha=>?_) (rx.objI rfl);refine eqS hO1 ?_
  simp only at h
  split at h
  ·rename_i l hl
   cases h
   refine Ym (fun vs m e r u4_=>?_) (hr.obj _ _ _ hl ha)
   refine wpAny_pyIter_list ⟨_,e,rfl,m,rfl⟩ (hq _ (.list n a) (Good.tmp hr _ _) ⟨⟨ha,⟨_,Heap.get?_push_size _ rfl,rfl,rfl⟩⟩,rfl,f1,f2⟩ hl)
  ·exact nn h
 | _=>exact nn h
end
noncomputable def PT (K:Kx)(A:Around)(env:Env)(c:CEnv)(cl:Cl)(e:Expr)(a:Ex):Prop :=
 ∀ℓ σ v σ' b,Zg cl a ℓ σ=some (.ok v,σ')→Uq v=some b→∀ρ s,HR K ρ σ s.heap→FO K A env c ℓ ρ s.heap→TR K A (isTrue e env (eval e env)) ρ s σ' fun u_ r v_=>r=b
noncomputable def PEs (K:Kx)(A:Around)(env:Env)(c:CEnv)(cl:Cl)(es:List Expr)(a:Es):Prop :=
 ∀pos ℓ σ vs σ',Yy cl a ℓ σ=some (.ok vs,σ')→∀ρ s,HR K ρ σ s.heap→FO K A env c ℓ ρ s.heap→TR K A (spliced (backTo pos (starEach es env))) ρ s σ' fun ρ' cvs s'=>RVs K ρ' s'.heap vs cvs
noncomputable def PO (K:Kx)(A:Around)(env:Env)(c:CEnv)(cl:Cl)(e:Option Expr)(a:Oe):Prop :=
 ∀ℓ σ v σ',Xr cl a ℓ σ=some (.ok v,σ')→∀ρ s,HR K ρ σ s.heap→FO K A env c ℓ ρ s.heap→TR K A (evalPart e env) ρ s σ' fun ρ' cv s'=>RV K ρ' s'.heap v cv
section
variable {K:Kx}{A:Around}{env:Env}{c:CEnv}{cl:Cl}{T:Tabs}
theorem TR.stand {α:Type}{t:Sem α}{pos:Pos}{P:List Addr→α→Shared→Prop}(h:TR K A t ρ s σ' P):TR K A (standAt pos >>= fun u_=>t) ρ s σ' P:=wpAny_bind (wpAny_standAt h)
theorem TR.hold {α:Type}{t:Sem α}{vs:List Value}{P:List Addr→α→Shared→Prop}(h:TR K A t ρ s σ' P):TR K A (holding vs t) ρ s σ' P:=wpAny_holding h
theorem TR.oper {t:Sem Value}{vs:List Value}{P:List Addr→Value→Shared→Prop}(h:TR K A t ρ s σ' P):TR K A (operate vs t) ρ s σ' P:=wpAny_operating h
theorem Xx {v:V}{b:Bool}(e:Uq v=some b){cv:Value}(r:RV K ρ s.heap v cv){Q:Bool→Shared→Prop}{E:Value→Shared→Prop}(hq:Q b s):wpAny K.M A (truthy cv) Q E s:=by
 cases v with
 | bool b'=>obtain rfl:=r.boolI rfl;obtain rfl:=Option.some.inj e;exact wpAny_truthy_bool hq
 | none=>obtain rfl:=r.noneI rfl;obtain rfl:=Option.some.inj e;exact wpAny_pure hq
 | _=>exact nn e
theorem Qj {e:Expr}{a:Ex}(h:PE K A env c cl e a)(hw:∀w,isTrue e env w=(do let v ← w;standAt e.pos;holding [v] (truthy v))):PT K A env c cl e a:=by
 intro ℓ σ v σ' b he hb ρ s hr fo
 rw[hw]
 exact TR.bind (h ℓ σ v σ' he ρ s hr fo) fun ρ1 cv s1 g1 rv=>TR.stand (TR.hold (Xx hb rv ⟨ρ1,Good.refl g1.hr,rfl⟩))
theorem Zrw {l r:Expr}{op:Operator}{pos:Pos}{a b:Ex}{o:Bop}(ho:cOp op=some o)(hl:PE K A env c cl l a)(hrr:PE K A env c cl r b):PE K A env c cl (.BinOp l op r pos) (.bin o a b):=by
 intro ℓ σ v σ' he ρ s hr fo
 skip
 refine Yb (he) fun x σ1 h1 he=>?_
 refine Yb (he) fun y σ2 h2 he=>?_
 have he:=Zax he
 rw[eval_BinOp]
 refine TR.bind (hl ℓ σ x σ1 h1 ρ s hr fo) fun ρ1 cx s1 g1 rx=>?_
 refine TR.bind (TR.hold (hrr ℓ σ1 y σ2 h2 ρ1 s1 g1.hr (fo.step hr g1.st))) fun ρ2 cy s2 g2 ry=>?_
 exact TR.stand (TR.oper (Zge he g2.hr (rx.step g1.hr g2.st) ry ho))
theorem Zrx {x:Expr}{pos:Pos}{a:Ex}(h:PE K A env c cl x a):PE K A env c cl (.UnaryOp .USub x pos) (.neg a):=by
 intro ℓ σ v σ' he ρ s hr fo
 skip
 refine Yb (he) fun y σ1 h1 he=>?_
 show TR K A (do let v ← eval x env;standAt pos;holding [v] (unaryOp .USub v)) ρ s σ' _
 refine TR.bind (h ℓ σ y σ1 h1 ρ s hr fo) fun ρ1 cy s1 g1 ry=>TR.stand (TR.hold ?_)
 cases y with
 | int i=>refine rE (fun u0_ hO1=>?_) (ry.intI rfl);refine eqS hO1 ?_;refine byC fun hX=>?_;refine rA (fun hO0 hO1=>?_) (okJ he);obtain rfl:=hO0;obtain rfl:=hO1;refine hX ?_;clear hX;exact neg_int ⟨ρ1,(Good.refl g1.hr).tok _,.int _ _⟩
 | _=>exact nn he
theorem Zry {x:Expr}{pos:Pos}{a:Ex}(h:PE K A env c cl x a):PE K A env c cl (.UnaryOp .Not x pos) (.not a):=by
 intro ℓ σ v σ' he ρ s hr fo
 skip
 refine Yb (he) fun y σ1 h1 he=>?_
 refine byC fun hX=>?_;refine rA (fun hx hO1=>?_) (Xv he);obtain rfl:=hO1;refine hX ?_;clear hX
 refine byC fun hX=>?_;refine rEA (fun b hb hO2=>?_) (Option.map_eq_some_iff.mp hx);obtain rfl:=hO2;refine hX ?_;clear hX
 show TR K A (do let v ← eval x env;standAt pos;holding [v] (unaryOp .Not v)) ρ s σ' _
 refine TR.bind (h ℓ σ y σ' h1 ρ s hr fo) fun ρ1 cy s1 g1 ry=>TR.stand (TR.hold ?_)
 exact not_value (Xx hb ry ⟨ρ1,Good.refl g1.hr,.bool _⟩)
theorem Zrz {x:Expr}{pos:Pos}{a:Ex}(h:PT K A env c cl x a):PT K A env c cl (.UnaryOp .Not x pos) (.not a):=by
 intro ℓ σ v σ' b he hb ρ s hr fo
 skip
 refine Yb (he) fun y σ1 h1 he=>?_
 refine byC fun hX=>?_;refine rA (fun hx hO1=>?_) (Xv he);obtain rfl:=hO1;refine hX ?_;clear hX
 refine byC fun hX=>?_;refine rEA (fun b' hb' hO2=>?_) (Option.map_eq_some_iff.mp hx);obtain rfl:=hO2;refine hX ?_;clear hX
 obtain rfl:=Option.some.inj hb
 exact wpAny_isTrue_Not (wpAny_mono (h ℓ σ y σ' b' h1 hb' ρ s hr fo) (fun r s' hq=>let ⟨ρ',g,e⟩:=hq;⟨ρ',g,by rw[e]⟩) fun u_ v_ f=>f)
set_option tactic.hygienic true in
theorem Zr0 {t b o:Expr}{pos:Pos}{x y z:Ex}(ht:PT K A env c cl t x)(hb:PE K A env c cl b y)(ho:PE K A env c cl o z):PE K A env c cl (.IfExp t b o pos) (.ife x y z):=by
 intro ℓ σ v σ' he ρ s hr fo
 skip
 refine Yb (he) fun w σ1 h1 he=>?_
 show TR K A (do if ← isTrue t env (eval t env) then eval b env else eval o env) ρ s σ' _
 split at he
 ·rename_i hw
  refine TR.bind (ht ℓ σ w σ1 true h1 hw ρ s hr fo) fun ρ1 r s1 g1 e=>?_
  subst e
  exact hb ℓ σ1 v σ' he ρ1 s1 g1.hr (fo.step hr g1.st)
 ·rename_i hw
  refine TR.bind (ht ℓ σ w σ1 false h1 hw ρ s hr fo) fun ρ1 r s1 g1 e=>?_
  subst e
  exact ho ℓ σ1 v σ' he ρ1 s1 g1.hr (fo.step hr g1.st)
 ·exact nn he
set_option tactic.hygienic true in
theorem Zr1 {t b o:Expr}{pos:Pos}{x y z:Ex}(ht:PT K A env c cl t x)(hb:PT K A env c cl b y)(ho:PT K A env c cl o z):PT K A env c cl (.IfExp t b o pos) (.ife x y z):=by
 intro ℓ σ v σ' bb he hbb ρ s hr fo
 skip
 refine Yb (he) fun w σ1 h1 he=>?_
 show TR K A (do if ← isTrue t env (eval t env) then isTrue b env (eval b env) else isTrue o env (eval o env)) ρ s σ' _
 split at he
 ·rename_i hw
  refine TR.bind (ht ℓ σ w σ1 true h1 hw ρ s hr fo) fun ρ1 r s1 g1 e=>?_
  subst e
  exact hb ℓ σ1 v σ' bb he hbb ρ1 s1 g1.hr (fo.step hr g1.st)
 ·rename_i hw
  refine TR.bind (ht ℓ σ w σ1 false h1 hw ρ s hr fo) fun ρ1 r s1 g1 e=>?_
  subst e
  exact ho ℓ σ1 v σ' bb he hbb ρ1 s1 g1.hr (fo.step hr g1.st)
 ·exact nn he
noncomputable def PB (K:Kx)(A:Around)(env:Env)(c:CEnv)(cl:Cl)(op:BoolOp)(es:List Expr)(a:Ex):Prop :=
 (∀pos ℓ σ v σ',Zg cl a ℓ σ=some (.ok v,σ')→∀ρ s,HR K ρ σ s.heap→FO K A env c ℓ ρ s.heap→TR K A (boolOp pos op (evalEach es env)) ρ s σ' fun ρ' cv s'=>RV K ρ' s'.heap v cv)∧
 (∀ℓ σ v σ' b,Zg cl a ℓ σ=some (.ok v,σ')→Uq v=some b→∀ρ s,HR K ρ σ s.heap→FO K A env c ℓ ρ s.heap→TR K A (allTrue op es env) ρ s σ' fun u_ r v_=>r=b)
theorem Zgp (op:BoolOp)(e:Expr){b:Bool}(h:TR K A (isTrue e env (eval e env)) ρ s σ' fun u_ r v_=>r=b):TR K A (allTrue op [e] env) ρ s σ' fun u_ r v_=>r=b:=by
 have e1:allTrue op [e] env=(do match op,← isTrue e env (eval e env) with | .And,false=>pure false | .Or,true=>pure true | _,_=>allTrue op [] env):=rfl
 rw[e1]
 refine TR.bind h fun ρ1 r s1 g1 er=>?_
 subst er
 cases op <;> cases r <;> exact TR.pure g1.hr rfl
theorem Zr2 {op:BoolOp}{e:Expr}{a:Ex}(h:PE K A env c cl e a)(ht:PT K A env c cl e a):PB K A env c cl op [e] a :=
 ⟨fun pos ℓ σ v σ' he ρ s hr fo=>h ℓ σ v σ' he ρ s hr fo,fun ℓ σ v σ' b he hb ρ s hr fo=>Zgp op e (ht ℓ σ v σ' b he hb ρ s hr fo)⟩
theorem Zgq {op:BoolOp}{a b:Ex}{v:V}(he:Zg cl (Zhy op a b) ℓ σ=some (.ok v,σ')) :
  ∃x σ1 t,Zg cl a ℓ σ=some (.ok x,σ1)∧Uq x=some t∧((t=(match op with | .And=>true | .Or=>false)∧Zg cl b ℓ σ1=some (.ok v,σ'))∨(t=(match op with | .And=>false | .Or=>true)∧x=v∧σ1=σ')):=by
 cases op with
 | And=>
  refine Yb ((show bok (Zg cl a ℓ σ) _=_ from he)) fun x σ1 h1 h2=>?_
  refine ⟨x,σ1,?_⟩
  cases hx:Uq x with
  | none=>rw[hx] at h2;exact nn h2
  | some t=>
   rw[hx] at h2
   refine ⟨t,h1,rfl,?_⟩
   cases t with
   | true=>exact .inl ⟨rfl,h2⟩
   | false=>exact .inr ⟨rfl,okJ h2⟩
 | Or=>
  refine Yb ((show bok (Zg cl a ℓ σ) _=_ from he)) fun x σ1 h1 h2=>?_
  refine ⟨x,σ1,?_⟩
  cases hx:Uq x with
  | none=>rw[hx] at h2;exact nn h2
  | some t=>
   rw[hx] at h2
   refine ⟨t,h1,rfl,?_⟩
   cases t with
   | false=>exact .inl ⟨rfl,h2⟩
   | true=>exact .inr ⟨rfl,okJ h2⟩
theorem Zom {op:BoolOp}{e e':Expr}{r:List Expr}{a b:Ex}(h:PE K A env c cl e a)(ht:PT K A env c cl e a)(hb:PB K A env c cl op (e'::r) b) :
  PB K A env c cl op (e::e'::r) (Zhy op a b):=by
 constructor
 ·intro pos ℓ σ v σ' he ρ s hr fo
  refine Us (fun x σ1 t h1 hx hd=>?_) (Zgq he)
  have e1 : boolOp pos op (evalEach (e :: e' :: r) env) = (do
    let v ← eval e env
    standAt pos
    let t ← holding [v] (truthy v)
    match op,t with
    | .And,false | .Or,true=>pure v
    | _,_=>boolOp pos op (evalEach (e'::r) env)):=rfl
  rw[e1]
  refine TR.bind (h ℓ σ x σ1 h1 ρ s hr fo) fun ρ1 cx s1 g1 rx=>TR.stand (wpAny_bind (wpAny_holding (Xx hx rx ?_)))
  rcases hd with ⟨rfl,he2⟩ | ⟨rfl,rfl,rfl⟩
  ·cases op <;> exact hb.1 pos ℓ σ1 v σ' he2 ρ1 s1 g1.hr (fo.step hr g1.st)
  ·cases op <;> exact TR.pure g1.hr rx
 ·intro ℓ σ v σ' bb he hbb ρ s hr fo
  refine Us (fun x σ1 t h1 hx hd=>?_) (Zgq he)
  have e1:allTrue op (e::e'::r) env=(do match op,← isTrue e env (eval e env) with | .And,false=>pure false | .Or,true=>pure true | _,_=>allTrue op (e'::r) env):=rfl
  rw[e1]
  refine TR.bind (ht ℓ σ x σ1 t h1 hx ρ s hr fo) fun ρ1 q s1 g1 er=>?_
  subst er
  rcases hd with ⟨rfl,he2⟩ | ⟨rfl,rfl,rfl⟩
  ·cases op <;> exact hb.2 ℓ σ1 v σ' bb he2 hbb ρ1 s1 g1.hr (fo.step hr g1.st)
  ·refine siE (hx.symm.trans hbb) ?_
   cases op <;> exact TR.pure g1.hr rfl
noncomputable def PC (K:Kx)(A:Around)(env:Env)(c:CEnv)(cl:Cl)(ops:List CmpOp)(es:List Expr)(r:Ch):Prop :=
 (∀pos x ℓ σ v σ',Zag cl x r ℓ σ=some (.ok v,σ')→∀ρ s cx,HR K ρ σ s.heap→FO K A env c ℓ ρ s.heap→RV K ρ s.heap x cx→TR K A (compareChain pos cx ops (evalEach es env)) ρ s σ' fun ρ' cv s'=>RV K ρ' s'.heap v cv)∧
 (∀pos x ℓ σ v σ' b,Zag cl x r ℓ σ=some (.ok v,σ')→Uq v=some b→∀ρ s cx,HR K ρ σ s.heap→FO K A env c ℓ ρ s.heap→RV K ρ s.heap x cx→TR K A (testChain pos cx ops (evalEach es env)) ρ s σ' fun u_ q v_=>q=b)
theorem Zr3 {op:CmpOp}{e:Expr}{a:Ex}(hu:A.units+16<cLine)(h:PE K A env c cl e a):PC K A env c cl [op] [e] (.one (Zlo op) a):=by
 constructor
 ·intro pos x ℓ σ v σ' he ρ s cx hr fo rx
  skip
  refine Yb (he) fun y σ1 h1 he=>?_
  refine byC fun hX=>?_;refine rA (fun hx hO1=>?_) (Xv he);obtain rfl:=hO1;refine hX ?_;clear hX
  refine byC fun hX=>?_;refine rEA (fun b hb hO2=>?_) (Option.map_eq_some_iff.mp hx);obtain rfl:=hO2;refine hX ?_;clear hX
  show TR K A (do let rv ← holding [cx] (eval e env);standAt pos;operate [cx,rv] (compareOp op cx rv)) ρ s σ' _
  refine TR.bind (TR.hold (h ℓ σ y σ' h1 ρ s hr fo)) fun ρ1 cy s1 g1 ry=>TR.stand (TR.oper ?_)
  exact J9 hb g1.hr (rx.step hr g1.st) ry rfl hu ⟨ρ1,Good.refl g1.hr,.bool _⟩
 ·intro pos x ℓ σ v σ' bb he hbb ρ s cx hr fo rx
  skip
  refine Yb (he) fun y σ1 h1 he=>?_
  refine byC fun hX=>?_;refine rA (fun hx hO1=>?_) (Xv he);obtain rfl:=hO1;refine hX ?_;clear hX
  refine byC fun hX=>?_;refine rEA (fun b hb hO2=>?_) (Option.map_eq_some_iff.mp hx);obtain rfl:=hO2;refine hX ?_;clear hX
  obtain rfl:=Option.some.inj hbb
  show TR K A (do let rv ← holding [cx] (eval e env);standAt pos;let c ← operate [cx,rv] (compareOp op cx rv);holding [c] (truthy c)) ρ s σ' _
  refine TR.bind (TR.hold (h ℓ σ y σ' h1 ρ s hr fo)) fun ρ1 cy s1 g1 ry=>TR.stand (wpAny_bind (wpAny_operating ?_))
  exact J9 hb g1.hr (rx.step hr g1.st) ry rfl hu (wpAny_holding (wpAny_truthy_bool ⟨ρ1,Good.refl g1.hr,rfl⟩))
theorem Ux {vs keep:List Value}{Q:Unit→Shared→Prop}{E:Value→Shared→Prop}(h:Q () s):wpAny K.M A (release vs keep) Q E s:=fun Γ p u_=>by rw[Sem.wp_release];exact h
set_option tactic.hygienic true in
theorem Zon {op op':CmpOp}{ops:List CmpOp}{e e':Expr}{es:List Expr}{a:Ex}{r:Ch}(hu:A.units+16<cLine)(h:PE K A env c cl e a)(hr':PC K A env c cl (op'::ops) (e'::es) r) :
  PC K A env c cl (op::op'::ops) (e::e'::es) (.more (Zlo op) a r):=by
 constructor
 ·intro pos x ℓ σ v σ' he ρ s cx hr fo rx
  skip
  refine Yb (he) fun y σ1 h1 he=>?_
  show TR K A (do
   let rv ← holding [cx] (eval e env)
   standAt pos
   let c ← holding [cx,rv] (compareOp op cx rv)
   release [cx,rv] [c]
   if ← holding [c,rv] (truthy c) then compareChain pos rv (op'::ops) (evalEach (e'::es) env) else pure c) ρ s σ' _
  refine TR.bind (TR.hold (h ℓ σ y σ1 h1 ρ s hr fo)) fun ρ1 cy s1 g1 ry=>TR.stand (wpAny_bind (wpAny_holding ?_))
  split at he
  ·rename_i hb
   exact J9 hb g1.hr (rx.step hr g1.st) ry rfl hu (wpAny_bind (Ux (wpAny_bind (wpAny_holding (wpAny_truthy_bool (hr'.1 pos y ℓ σ1 v σ' he ρ1 s1 cy g1.hr (fo.step hr g1.st) ry))))))
  ·rename_i hb
   refine okE he ?_
   exact J9 hb g1.hr (rx.step hr g1.st) ry rfl hu (wpAny_bind (Ux (wpAny_bind (wpAny_holding (wpAny_truthy_bool (TR.pure g1.hr (.bool _)))))))
  ·exact nn he
 ·intro pos x ℓ σ v σ' bb he hbb ρ s cx hr fo rx
  skip
  refine Yb (he) fun y σ1 h1 he=>?_
  show TR K A (do
   let rv ← holding [cx] (eval e env)
   standAt pos
   let c ← holding [cx,rv] (compareOp op cx rv)
   release [cx,rv] [c]
   if ← holding [c,rv] (truthy c) then testChain pos rv (op'::ops) (evalEach (e'::es) env) else pure false) ρ s σ' _
  refine TR.bind (TR.hold (h ℓ σ y σ1 h1 ρ s hr fo)) fun ρ1 cy s1 g1 ry=>TR.stand (wpAny_bind (wpAny_holding ?_))
  split at he
  ·rename_i hb
   exact J9 hb g1.hr (rx.step hr g1.st) ry rfl hu (wpAny_bind (Ux (wpAny_bind (wpAny_holding (wpAny_truthy_bool (hr'.2 pos y ℓ σ1 v σ' bb he hbb ρ1 s1 cy g1.hr (fo.step hr g1.st) ry))))))
  ·rename_i hb
   refine byC fun hX=>?_;refine rA (fun hO0 hO1=>?_) (okJ he);obtain rfl:=hO0;obtain rfl:=hO1;refine hX ?_;clear hX
   obtain rfl:=Option.some.inj hbb
   exact J9 hb g1.hr (rx.step hr g1.st) ry rfl hu (wpAny_bind (Ux (wpAny_bind (wpAny_holding (wpAny_truthy_bool (TR.pure g1.hr rfl))))))
  ·exact nn he
theorem Zr4 {l:Expr}{ops:List CmpOp}{cs:List Expr}{pos:Pos}{a:Ex}{r:Ch}(hm:markedEach ops cs (evalEach cs env)=evalEach cs env)(hl:PE K A env c cl l a)(hc:PC K A env c cl ops cs r) :
  PE K A env c cl (.Compare l ops cs pos) (.cmp a r):=by
 intro ℓ σ v σ' he ρ s hr fo
 skip
 refine Yb (he) fun x σ1 h1 he=>?_
 show TR K A (do compareChain pos (← eval l env) ops (markedEach ops cs (evalEach cs env))) ρ s σ' _
 rw[hm]
 exact TR.bind (hl ℓ σ x σ1 h1 ρ s hr fo) fun ρ1 cx s1 g1 rx=>hc.1 pos x ℓ σ1 v σ' he ρ1 s1 cx g1.hr (fo.step hr g1.st) rx
theorem Zr5 {l:Expr}{ops:List CmpOp}{cs:List Expr}{pos:Pos}{a:Ex}{r:Ch}(hm:markedEach ops cs (evalEach cs env)=evalEach cs env)(hl:PE K A env c cl l a)(hc:PC K A env c cl ops cs r) :
  PT K A env c cl (.Compare l ops cs pos) (.cmp a r):=by
 intro ℓ σ v σ' b he hb ρ s hr fo
 skip
 refine Yb (he) fun x σ1 h1 he=>?_
 show TR K A (do testChain pos (← eval l env) ops (markedEach ops cs (evalEach cs env))) ρ s σ' _
 rw[hm]
 exact TR.bind (hl ℓ σ x σ1 h1 ρ s hr fo) fun ρ1 cx s1 g1 rx=>hc.2 pos x ℓ σ1 v σ' b he hb ρ1 s1 cx g1.hr (fo.step hr g1.st) rx
theorem Zcc:PEs K A env c cl [] .nil:=by
 intro pos ℓ σ vs σ' he ρ s hr fo
 refine okE he ?_
 exact wpAny_items_nil ⟨ρ,Good.refl hr,.nil⟩
theorem Qk {e:Expr}{es:List Expr}{a:Ex}{as:Es}(hs:starEach (e::es) env=(false,eval e env)::starEach es env)(h:PE K A env c cl e a)(h':PEs K A env c cl es as):PEs K A env c cl (e::es) (.cons a as):=by
 intro pos ℓ σ vs σ' he ρ s hr fo
 skip
 refine Yb (he) fun v σ1 h1 he=>?_
 refine Yb (he) fun vs' σ2 h2 he=>?_
 cases he
 refine wpAny_items_cons (wpAny_mono (h ℓ σ v σ1 h1 ρ s hr fo) (fun cv s1 hq=>?_) fun u_ v_ f=>f) hs
 revert hq;refine rEA fun ρ1 g1 rv=>?_
 refine wpAny_mono (h' pos ℓ σ1 vs' σ' h2 ρ1 s1 g1.hr (fo.step hr g1.st)) (fun cvs s2 hq=>?_) fun u_ v_ f=>f
 revert hq;refine rEA fun ρ2 g2 rvs=>?_
 exact ⟨ρ2,g1.trans g2,.cons (rv.step g1.hr g2.st) rvs⟩
set_option tactic.hygienic true in
theorem Zr6 {es:List Expr}{k:Nat}{pos:Pos}{as:Es}(h:PEs K A env c cl es as):PE K A env c cl (.Tuple es k pos) (.tup as):=by
 intro ℓ σ v σ' he ρ s hr fo
 skip
 refine Yb (he) fun vs σ1 h1 he=>?_
 split at he
 ·rename_i hl
  cases he
  refine wpAny_Tuple (wpAny_mono (h pos ℓ σ vs σ' h1 ρ s hr fo) (fun cvs s1 hq=>?_) fun u_ v_ f=>f)
  revert hq;refine rEA fun ρ1 g1 rvs=>?_
  refine ⟨Ug rvs hl,?_⟩
  refine rA (fun g rr=>?_) (Zls g1.hr rvs hl s1.toks)
  exact ⟨_,g1.trans g,rr⟩
 ·exact nn he
theorem Zr7 {es:List Expr}{pos:Pos}{as:Es}(h:PEs K A env c cl es as):PE K A env c cl (.List es pos) (.lst as):=by
 intro ℓ σ v σ' he ρ s hr fo
 skip
 refine Yb (he) fun vs σ1 h1 he=>?_
 refine rAA (fun hl hO1 hO2=>?_) (Uu (Zax he));refine eqS hO1 ?_;refine eqS hO2 ?_
 refine wpAny_List (wpAny_mono (h pos ℓ σ vs σ1 h1 ρ s hr fo) (fun cvs s1 hq=>?_) fun u_ v_ f=>f)
 revert hq;refine rEA fun ρ1 g1 rvs=>?_
 refine ⟨Ug rvs hl,?_⟩
 refine rA (fun g rr=>?_) (Qv (n:=0) g1.hr rvs hl s1.toks)
 exact ⟨_,g1.trans g,rr⟩
theorem Zr8 {v i:Expr}{pos:Pos}{a b:Ex}(h:PE K A env c cl v a)(h':PE K A env c cl i b):PE K A env c cl (.Subscript v i pos) (.idx a b):=by
 intro ℓ σ w σ' he ρ s hr fo
 skip
 refine Yb (he) fun x σ1 h1 he=>?_
 refine Yb (he) fun y σ2 h2 he=>?_
 refine byC fun hX=>?_;refine rA (fun hx hO1=>?_) (Xv he);obtain rfl:=hO1;refine hX ?_;clear hX
 refine Subscript_ (wpAny_mono (h ℓ σ x σ1 h1 ρ s hr fo) (fun cx s1 hq=>?_) fun u_ v_ f=>f)
 revert hq;refine rEA fun ρ1 g1 rx=>?_
 refine wpAny_mono (h' ℓ σ1 y σ' h2 ρ1 s1 g1.hr (fo.step hr g1.st)) (fun cy s2 hq=>?_) fun u_ v_ f=>f
 revert hq;refine rEA fun ρ2 g2 ry=>?_
 exact TR.after (g1.trans g2) (Ze6 hx g2.hr (rx.step g1.hr g2.st) ry)
theorem Zt2:PO K A env c cl none .no:=by
 intro ℓ σ v σ' he ρ s hr fo
 refine okE he ?_
 exact TR.pure hr .none
theorem Zr9 {e:Expr}{a:Ex}(h:PE K A env c cl e a):PO K A env c cl (some e) (.yes a):=fun ℓ σ v σ' he ρ s hr fo=>h ℓ σ v σ' he ρ s hr fo
theorem Zsa {v:Expr}{lo hi st:Option Expr}{p pos:Pos}{a:Ex}{x y z:Oe}(h:PE K A env c cl v a)(hl:PO K A env c cl lo x)(hh:PO K A env c cl hi y)(hs:PO K A env c cl st z) :
  PE K A env c cl (.Subscript v (.Slice lo hi st p) pos) (.slc a x y z):=by
 intro ℓ σ w σ' he ρ s hr fo
 skip
 refine Yb (he) fun o σ1 h1 he=>?_
 refine Yb (he) fun l σ2 h2 he=>?_
 refine Yb (he) fun u σ3 h3 he=>?_
 refine Yb (he) fun t σ4 h4 he=>?_
 have he:=Zax he
 refine Subscript_ (wpAny_mono (h ℓ σ o σ1 h1 ρ s hr fo) (fun cx s1 hq=>?_) fun u_ v_ f=>f)
 revert hq;refine rEA fun ρ1 g1 rx=>?_
 have fo1:=fo.step hr g1.st
 refine wpAny_Slice (wpAny_mono (hl ℓ σ1 l σ2 h2 ρ1 s1 g1.hr fo1) (fun cl' s2 hq=>?_) fun u_ v_ f=>f)
 revert hq;refine rEA fun ρ2 g2 rl=>?_
 have fo2:=fo1.step g1.hr g2.st
 refine wpAny_mono (hh ℓ σ2 u σ3 h3 ρ2 s2 g2.hr fo2) (fun cu s3 hq=>?_) fun u_ v_ f=>f
 revert hq;refine rEA fun ρ3 g3 ru=>?_
 have fo3:=fo2.step g2.hr g3.st
 refine wpAny_mono (hs ℓ σ3 t σ4 h4 ρ3 s3 g3.hr fo3) (fun ct s4 hq=>?_) fun u_ v_ f=>f
 revert hq;refine rEA fun ρ4 g4 rt=>?_
 have g5 := Good.tmp g4.hr { cls := .type "slice", data := .fields #[cl', cu, ct] } s4.toks
 have r1:=(((rx.step g1.hr g2.st).step g2.hr g3.st).step g3.hr g4.st).step g4.hr g5.st
 have r2:=((rl.step g2.hr g3.st).step g3.hr g4.st).step g4.hr g5.st
 have r3:=(ru.step g3.hr g4.st).step g4.hr g5.st
 have r4:=rt.step g4.hr g5.st
 exact TR.after ((((g1.trans g2).trans g3).trans g4).trans g5) (Zgm he g5.hr r1 r2 r3 r4 (Heap.IsSliceOf.new ..))
end
noncomputable def PI (K:Kx)(A:Around)(env:Env)(c:CEnv)(cl:Cl)(e:Expr)(it:It):Prop :=
 ∀ℓ σ src σ',Wy cl it ℓ σ=some (.ok src,σ')→∀ρ s,HR K ρ σ s.heap→FO K A env c ℓ ρ s.heap→
  wpAny K.M A (eval e env) (fun x s1=>wpAny K.M A (pyIter x) (fun itv s2=>∃ρ' I k,itv=.ref I∧Good K ρ s ρ' σ' s2∧ItOK K ρ' I 0 s2.heap src k∧src.keep σ'∧s.heap.get? I=none) (fun u_ v_=>False) s1) (fun u_ v_=>False) s
noncomputable def PF (K:Kx)(A:Around)(env:Env)(c:CEnv)(cl:Cl)(es:List Expr)(a:Es):Prop :=
 ∀ℓ σ b σ',Ji cl a ℓ σ=some (.ok b,σ')→∀ρ s,HR K ρ σ s.heap→FO K A env c ℓ ρ s.heap→
  TR K A (forIn es true fun c r=>if r=true then do let ok ← isTrue c env (eval c env);pure (ForInStep.yield ok) else pure (ForInStep.yield r)) ρ s σ' fun u_ r v_=>r=b
section
variable {K:Kx}{A:Around}{env:Env}{c:CEnv}{cl:Cl}{T:Tabs}
theorem Good.back (g:Good K ρ s ρ' σ' s'){a:Addr}(h:s'.heap.get? a=none):s.heap.get? a=none:=by
 cases e:s.heap.get? a with
 | none=>rfl
 | some o=>
  by_cases ha:a∈ρ
  ·have:a∈ρ':=g.st.pre.subset ha
   refine rEA (fun ob e' u2_=>?_) (g.hr.at_ this)
   rw[h] at e';exact nn e'
  ·have:=g.st.fr a _ (J7 e) ha
   rw[ng_none.mpr h] at this;exact nn this
theorem Zt3 {e:Expr}{a:Ex}(h:PE K A env c cl e a):PI K A env c cl e (.ex a):=by
 intro ℓ σ src σ' he ρ s hr fo
 skip
 refine Yb (he) fun x σ1 h1 he=>?_
 refine wpAny_mono (h ℓ σ x σ1 h1 ρ s hr fo) (fun cx s1 hq=>?_) fun u_ v_ f=>f
 revert hq;refine rEA fun ρ1 g1 rx=>?_
 have e1:σ'=σ1:=by
  cases x <;> simp at he
  ·exact he.2.symm
  ·split at he
   ·refine okE he ?_;rfl
   ·exact nn he
  ·exact he.2.symm
 subst e1
 refine Zol (x:=x) (src:=src) ?_ g1.hr rx fun h' k g ok hk=>⟨ρ1,_,k,rfl,g1.trans g,ok,hk,g1.back (get?_size _)⟩
 cases x <;> exact he
theorem Zsb:PF K A env c cl [] .nil:=by
 intro ℓ σ b σ' he ρ s hr fo
 refine okE he ?_
 exact wpAny_tests_nil ⟨ρ,Good.refl hr,rfl⟩
theorem Zlv (es:List Expr)(hr:HR K ρ σ s.heap) :
  TR K A (forIn es false fun c r=>if r=true then do let ok ← isTrue c env (eval c env);pure (ForInStep.yield ok) else pure (ForInStep.yield r)) ρ s σ fun u_ r v_=>r=false:=by
 induction es with
 | nil=>exact TR.pure hr rfl
 | cons e es ih=>rw[List.forIn_cons];simp only[Bool.false_eq_true,if_false,pure_bind];exact ih
set_option tactic.hygienic true in
theorem Zoo {e:Expr}{es:List Expr}{a:Ex}{as:Es}(h:PT K A env c cl e a)(h':PF K A env c cl es as):PF K A env c cl (e::es) (.cons a as):=by
 intro ℓ σ b σ' he ρ s hr fo
 skip
 refine Yb (he) fun v σ1 h1 he=>?_
 rw[List.forIn_cons]
 simp only[if_true,bind_assoc,pure_bind]
 split at he
 ·rename_i hv
  refine TR.bind (h ℓ σ v σ1 true h1 hv ρ s hr fo) fun ρ1 q s1 g1 e=>?_
  subst e
  exact h' ℓ σ1 b σ' he ρ1 s1 g1.hr (fo.step hr g1.st)
 ·rename_i hv
  cases he
  refine TR.bind (h ℓ σ v σ' false h1 hv ρ s hr fo) fun ρ1 q s1 g1 e=>?_
  subst e
  exact Zlv es g1.hr
 ·exact nn he
noncomputable def Uh (env:Env):List (Str×NameKind)→List (Str×Addr)→List (Str×Addr)
 | [],acc=>acc
 | (n,k)::r,acc=>Uh env r (if k == .free then (n,(env.cells.lookup n).getD 0)::acc else acc)
theorem Zdt (env:Env)(sc:Scope)(h:∀n,(n,NameKind.free)∈sc.names→(env.cells.lookup n).isSome=true):closureFor sc env=pure (Uh env sc.names []):=by
 have key : ∀ (l : List (Str × NameKind)) (acc : List (Str × Addr)), (∀ n, (n, NameKind.free) ∈ l → (env.cells.lookup n).isSome = true) →
   (forIn l acc fun x cs=>if x.2 == NameKind.free then do let a ← cellOf env x.1;pure (ForInStep.yield ((x.1,a)::cs)) else pure (ForInStep.yield cs):Sem (List (Str×Addr)))=pure (Uh env l acc):=by
  intro l
  induction l with
  | nil=>intro acc _;rfl
  | cons p l ih=>
   intro acc hp
   refine byC fun hX=>?_;obtain ⟨n,k⟩:=p;refine hX ?_;clear hX
   rw[List.forIn_cons]
   simp only[Uh]
   by_cases hk:k=.free
   ·subst hk
    refine rE (fun a ha=>?_) (Option.isSome_iff_exists.mp (hp n List.mem_cons_self))
    have hc:cellOf env n=pure a:=by unfold cellOf;rw[ha]
    simp only[beq_self_eq_true,if_true,hc,pure_bind,ha,Option.getD_some]
    exact ih _ fun m hm=>hp m (List.mem_cons_of_mem _ hm)
   ·have hb:(k == NameKind.free)=false:=by simpa using hk
    simp only[hb,Bool.false_eq_true,if_false,pure_bind]
    exact ih _ fun m hm=>hp m (List.mem_cons_of_mem _ hm)
 have:=key sc.names [] h
 unfold closureFor
 simp only[bind_pure]
 rw[← this]
set_option tactic.hygienic true in
theorem Zak {x:Str}{a:Addr}:∀{l:List (Str×NameKind)}{acc:List (Str×Addr)},(x,a)∈Uh env l acc→(x,a)∈acc∨((x,NameKind.free)∈l∧a=(env.cells.lookup x).getD 0)
 | [],acc,h=>.inl h
 | (n,k)::r,acc,h=>by
  rcases Zak (l:=r) h with h | h
  ·split at h
   ·rename_i hk
    rcases List.mem_cons.mp h with e | h
    ·refine rA (fun hO0 hO1=>?_) (Prod.mk.inj e);refine eqS hO0 ?_;refine eqS hO1 ?_;right;exact ⟨by rw[← beq_iff_eq.mp hk];exact List.mem_cons_self,rfl⟩
    ·exact .inl h
   ·exact .inl h
  ·exact .inr ⟨List.mem_cons_of_mem _ h.1,h.2⟩
theorem Zab {x:Str}:∀{l:List (Str×NameKind)}{acc:List (Str×Addr)},((x,NameKind.free)∈l∨acc.lookup x=some ((env.cells.lookup x).getD 0))→(Uh env l acc).lookup x=some ((env.cells.lookup x).getD 0)
 | [],acc,h=>by
  rcases h with h | h
  ·cases h
  ·exact h
 | (n,k)::r,acc,h=>by
  simp only[Uh]
  apply Zab (l:=r)
  by_cases hr:(x,NameKind.free)∈r
  ·exact .inl hr
  ·right
   by_cases hk:k=.free
   ·subst hk
    simp only[beq_self_eq_true,if_true,List.lookup_cons]
    cases hx:x == n with
    | true=>simp only;rw[beq_iff_eq.mp hx]
    | false=>
     simp only
     rcases h with h | h
     ·rcases List.mem_cons.mp h with e | h
      ·cases e;simp at hx
      ·exact absurd h hr
     ·exact h
   ·have hb:(k == NameKind.free)=false:=by simpa using hk
    simp only[hb,Bool.false_eq_true,if_false]
    rcases h with h | h
    ·rcases List.mem_cons.mp h with e | h
     ·refine byC fun hX=>?_;refine rA (fun hO0 hO1=>?_) (Prod.mk.inj e);obtain rfl:=hO0;obtain rfl:=hO1;refine hX ?_;clear hX;exact absurd rfl hk
     ·exact absurd h hr
    ·exact h
theorem Jp {α:Type}:∀{l:List (Str×α)}{x:Str}{a:α},(l.map (·.1)).Nodup→(x,a)∈l→l.lookup x=some a
 | (n,b)::r,x,a,hn,h=>by
  rw[List.lookup_cons]
  rcases List.mem_cons.mp h with e | h'
  ·refine piE e ?_;simp
  ·have hne : x ≠ n := by
    intro e
    rw[List.map_cons,List.nodup_cons] at hn
    exact hn.1 (List.mem_map.mpr ⟨_,h',e⟩)
   have:(x == n)=false:=by simpa using hne
   rw[this]
   rw[List.map_cons,List.nodup_cons] at hn
   exact Jp hn.2 h'
structure CompOK (c:CEnv)(sc:Scope):Prop where
 kind:sc.kind=.function
 nd:(sc.names.map (·.1)).Nodup
 nocell:∀p∈sc.names,p.2≠.cell
 frees:∀n,(n,NameKind.free)∈sc.names→c.names.lookup n=some .cell
theorem Zkm {sc:Scope}(h:Ze5 c sc=true):CompOK c sc:=by
 simp only[Ze5,Bool.and_eq_true,decide_eq_true_eq,List.all_eq_true,beq_iff_eq] at h
 revert h;refine rA fun hO0 h3=>?_;revert hO0;refine rA fun hO0 h2=>?_;obtain ⟨⟨h1,_⟩,_⟩:=hO0
 refine ⟨h1,h2,fun p hp e=>?_,fun n hn=>?_⟩
 ·have:=(h3 p hp).1;rw[e] at this;simp at this
 ·have:=(h3 _ hn).2;simpa using this
set_option tactic.hygienic true in
theorem Zdu {sc:Scope}(ok:CompOK c sc){x:Str}{k:NameKind}(h:(x,k)∈Ja c sc):(k=.cell∧(x,NameKind.free)∈sc.names)∨(k≠.cell∧(x,k)∈sc.names):=by
 unfold Ja at h
 refine rEA (fun hO0 h1 h2=>?_) (List.mem_map.mp h);obtain ⟨n,k'⟩:=hO0
 simp only at h2
 split at h2
 ·rename_i hc
  simp only[Bool.and_eq_true,beq_iff_eq] at hc
  refine piE h2 ?_
  exact .inl ⟨rfl,hc.1▸h1⟩
 ·refine piE h2 ?_
  exact .inr ⟨ok.nocell _ h1,h1⟩
theorem Zcv (sc:Scope):(Ja c sc).map (·.1)=sc.names.map (·.1):=by
 unfold Ja
 rw[List.map_map]
 apply List.map_congr_left
 intro hR0 _
 refine byC fun hX=>?_;obtain ⟨n,k⟩:=hR0;refine hX ?_;clear hX
 simp only[Function.comp]
 split <;> rfl
theorem Zh0 {x:Str}{i:Nat}{n0:Nat}{l:List (Str×NameKind)}(h:(x,i)∈l.zipIdx.map fun p=>(p.1.1,n0+p.2)):∃j k,i=n0+j∧j<l.length∧l[j]?=some (x,k):=by
 refine rEA (fun hO0 h1 h2=>?_) (List.mem_map.mp h);obtain ⟨hO0,j⟩:=hO0;obtain ⟨n,k⟩:=hO0
 refine piE h2 ?_
 refine rA (fun h3 h4=>?_) (List.mem_zipIdx' h1)
 exact ⟨j,k,rfl,h3,by rw[List.getElem?_eq_getElem h3,← h4]⟩
set_option tactic.hygienic true in
theorem J2 {sc:Scope}{x:Str}{i:Nat}(h:(Zbi c sc).lookup x=some i) :
  (∃j,i=c.next+j∧j<(sc.names.filter fun p=>p.2 == .local).length∧(sc.names.filter fun p=>p.2 == .local)[j]?=some (x,.local))∨((x,NameKind.free)∈sc.names∧c.slots.lookup x=some i):=by
 have hm:=mem_of_lookup h
 unfold Zbi at hm
 rcases List.mem_append.mp hm with hm | hm
 ·refine Ym (fun j k hO2 h1 h2=>?_) (Zh0 hm);refine eqS hO2 ?_
  left
  have hk:k=.local:=by
   have:=List.mem_filter.mp (List.mem_of_getElem? h2)
   simpa using this.2
  subst hk
  exact ⟨j,rfl,h1,h2⟩
 ·right
  refine rEA (fun hO0 h1 h2=>?_) (List.mem_filterMap.mp hm);obtain ⟨n,k⟩:=hO0
  simp only at h2
  split at h2
  ·rename_i hc
   simp only[Bool.and_eq_true,beq_iff_eq] at hc
   refine Jx (h2) fun j hj e=>?_
   refine piE e ?_
   exact ⟨hc.1▸h1,hj⟩
  ·exact nn h2
set_option tactic.hygienic true in
theorem Zop {sc:Scope}{C:Addr}(fo:FO K A env c ℓ ρ h)(ok:CompOK c sc)(hC:h.Ns C fun u_=>none)(hCρ:C ∉ ρ)(hC0:K.h0.get? C=none)(hCn:∀x a,(x,a)∈env.cells→a≠C) :
  FO K A (compEnvC sc (Uh env sc.names []) C env) (Jb c sc) ℓ ρ h:=by
 have hnames:(relabel sc env).names=Ja c sc:=by
  unfold relabel Ja
  apply List.map_congr_left
  intro hR0 _
  refine byC fun hX=>?_;obtain ⟨n,k⟩:=hR0;refine hX ?_;clear hX
  simp only[fo.kind,show env.kindOf n=c.names.lookup n from by unfold Env.kindOf;rw[fo.names],beq_self_eq_true,Bool.and_true]
 have hmem:∀x a,(x,a)∈Uh env sc.names []→(x,NameKind.free)∈sc.names∧env.cells.lookup x=some a:=by
  intro x a hm
  rcases Zak hm with h | ⟨h1,h2⟩
  ·cases h
  ·refine Jz (fun a' u1_ h3 u3_=>?_) (fo.cell x (ok.frees x h1))
   rw[h3] at h2;simp at h2
   exact ⟨h1,by rw[h2];exact h3⟩
 refine ⟨ok.kind,hnames,fo.glob,fo.blts,⟨_,hC,fun x i v h1 h2 h3=>?_⟩,fun x hx=>?_,fun x y i h1 h2=>?_,fun x y a h1 h2=>?_,⟨hCρ,hC0⟩,fun i v hi=>?_,fun x i hx=>?_,fo.ff,fun x a hx=>?_⟩
 ·exfalso
  rcases J2 h2 with ⟨j,rfl,_,_⟩ | ⟨hf,_⟩
  ·exact fo.free _ v (by exact ln2 [] (.le .v0 (.a .v0 .v1)) (.d 11) rfl) h3
  ·have hc : (x, NameKind.cell) ∈ Ja c sc := by
    unfold Ja
    refine List.mem_map.mpr ⟨_,hf,?_⟩
    simp[ok.frees x hf]
   have:=Jp (by rw[Zcv];exact ok.nd) hc
   have h1':(Ja c sc).lookup x=some .local:=h1
   rw[this] at h1';cases h1'
 ·have hx':(Ja c sc).lookup x=some .cell:=hx
  rcases Zdu ok (mem_of_lookup hx') with ⟨_,hf⟩ | ⟨hne,_⟩
  ·refine Ym (fun a o h1 h2 h3=>?_) (fo.cell x (ok.frees x hf))
   refine ⟨a,o,?_,h2,fun i v g1 g2=>?_⟩
   ·have:=Zab (env:=env) (acc:=[]) (.inl hf)
    rw[h1] at this;exact this
   ·rcases J2 g1 with ⟨j,rfl,_,g3⟩ | ⟨_,g3⟩
    ·exact absurd g2 (fo.free _ v (by exact ln2 [] (.le .v0 (.a .v0 .v1)) (.d 11) rfl))
    ·exact h3 i v g3 g2
  ·exact absurd rfl hne
 ·rcases J2 h1 with ⟨j,rfl,b1,g1⟩ | ⟨f1,g1⟩ <;> rcases J2 h2 with ⟨j',e',b2,g2⟩ | ⟨f2,g2⟩
  ·have:j=j':=by exact ln3 [(.eq (.a .v2 .v0) (.a .v2 .v1))] (.eq .v0 .v1) (.s (.d 1101) (.d 111)) rfl e'
   subst this
   rw[g1] at g2;cases g2;rfl
  ·have:=fo.lt _ _ g2;lia
  ·have:=fo.lt _ _ g1;lia
  ·exact fo.inj x y i g1 g2
 ·exact fo.capart x y a (mem_of_lookup (hmem x a h1).2) (mem_of_lookup (hmem y a h2).2)
 ·have:c.next≤i:=by have hi':c.next+(sc.names.filter fun p=>p.2 == .local).length≤i:=hi;lia
  exact fo.free i v this
 ·show i<c.next+(sc.names.filter fun p=>p.2 == .local).length
  rcases J2 hx with ⟨j,rfl,b1,_⟩ | ⟨_,g1⟩
  ·exact ln3 [(.lt .v1 .v2)] (.lt (.a .v0 .v1) (.a .v0 .v2)) (.d 111) rfl b1
  ·have:=fo.lt _ _ g1;lia
 ·have hl:=(hmem x a hx).2
  refine Zb8 (fun g1 g2 u2_ g4=>?_) (fo.cnew x a (mem_of_lookup hl))
  exact ⟨g1,g2,hCn x a (mem_of_lookup hl),g4⟩
end
section
variable {K:Kx}{A:Around}{env:Env}{c:CEnv}{cl:Cl}{T:Tabs}
theorem Ql {cvs ws:List Value}{m:Nat}(h:some (Yd cvs m)=some (Zz ws)):False:=by
 have h1:=congrArg (fun o=>o.map Obj.cls) h
 exact absurd (Option.some.inj h1) (show ¬ Value.type "list" = Value.type "tuple" by decide)
theorem ex3 {I D C:Addr}(h1:∃o,h.get? I=some o)(h2:∃o,h.get? D=some o)(h3:∃o,h.get? C=some o):∀b∈[I,D,C],∃o,h.get? b=some o:=by
 intro b hb
 rcases List.mem_cons.mp hb with rfl | hb
 ·exact h1
 ·rcases List.mem_cons.mp hb with rfl | hb
  ·exact h2
  ·rw[List.mem_singleton.mp hb];exact h3
theorem FO.exC {C:Addr}(fo:FO K A env c ℓ ρ h)(hC:env.locals=C):∃o,h.get? C=some o:=by
 refine rEA (fun m' hn' u2_=>?_) fo.ns
 rw[hC] at hn';exact Ns.ex hn'
theorem FO.butF {I:Addr}(fo:FO K A env c ℓ ρ h)(hI:I≠env.locals)(hIc:∀x a,(x,a)∈env.cells→a≠I)(hnt:∀vs,h.get? I≠some (Zz vs))(hff:FF K A ρ h')(hk:∀b o,b≠I→h.get? b=some o→h'.get? b=some o):FO K A env c ℓ ρ h':=by
 refine ⟨fo.kind,fo.names,fo.glob,fo.blts,?_,fun x hx=>?_,fo.inj,fo.capart,fo.lnew,fo.free,fo.lt,hff,fun x a hx=>?_⟩
 ·refine rEA (fun m hn hm=>?_) fo.ns
  exact ⟨m,Ns.at hn fun o e=>hk _ _ (fun e'=>hI e'.symm) e,fun x i v h1 h2 h3=>let ⟨cv,g1,g2⟩:=hm x i v h1 h2 h3;⟨cv,g1,g2.but hnt hk⟩⟩
 ·refine Ym (fun a o g1 g2 g3=>?_) (fo.cell x hx)
  exact ⟨a,o,g1,IsCell.at g2 fun o e=>hk _ _ (hIc x a (mem_of_lookup g1)) e,fun i v h1 h2=>let ⟨cv,e1,e2⟩:=g3 i v h1 h2;⟨cv,e1,e2.but hnt hk⟩⟩
 ·refine Zac (fun g1 g2 g3 o g4 g5=>?_) (fo.cnew x a hx)
  exact ⟨g1,g2,g3,o,hk _ _ (hIc x a hx) g4,g5⟩
theorem FO.but {I:Addr}(fo:FO K A env c ℓ ρ h)(hI:I≠env.locals)(hIc:∀x a,(x,a)∈env.cells→a≠I)(hnt:∀vs,h.get? I≠some (Zz vs))(hnd:∀o,h.get? I=some o→¬ dy o)(hk:∀b o,b≠I→h.get? b=some o→h'.get? b=some o):FO K A env c ℓ ρ h' :=
 fo.butF hI hIc hnt (fo.ff.but (fun b hb o e=>hk b o hb e) hnd) hk
theorem StepX.weaken {X Y:List Addr}(x:StepX X ρ s ρ' s')(h:∀a∈X,a∈Y):StepX Y ρ s ρ' s':=⟨x.pre,fun b o e h1 h2=>x.fr b o e h1 fun h3=>h2 (h b h3),x.fresh,x.gens,x.os⟩
theorem StepX.one {I:Addr}{t:Nat}(hk:∀b o,b≠I→s.heap.get? b=some o→h'.get? b=some o):StepX [I] ρ s ρ { s with heap:=h',toks:=t } :=
 ⟨List.prefix_refl _,fun b o e u_ hb=>Uz (fun o e=>hk b o (fun e'=>hb (by rw[e'];exact List.mem_cons_self)) e) e,fun u_ h=>.inl h,rfl,rfl⟩
structure CInv (K:Kx)(A:Around)(cenv:Env)(c':CEnv)(src:Src)(k:ItK)(body:L→H→X (Option V))(tg:Nat)(vs:List V)(σ2:H)(ρ2:List Addr)(s4:Shared)(I D C:Addr)(i:Nat)(s:Shared)(ρ':List Addr)(σ':H)(acc:List V)(ℓ':L)
  (cacc:List Value) (m:Nat):Prop where
 run:Q9 body tg src.keep (src.vs.drop i) acc ℓ' σ'=some (.ok vs,σ2)
 hr:HR K ρ' σ' s.heap
 st:StepX [I,D,C] ρ2 s4 ρ' s
 it:ItOK K ρ' I i s.heap src k
 keep:src.keep σ'
 d:s.heap.get? D=some (Yd cacc m)
 rv:RVs K ρ' s.heap acc cacc
 len:acc.length≤Zl
 off:D ∉ ρ'
 fo:FO K A cenv c' ℓ' ρ' s.heap
 le:i≤src.vs.length
theorem Zkn {body:L→H→X (Option V)}{tg:Nat}{keep:H→Prop}{acc:List V}{vs:List V}{σ2:H}(h:Q9 body tg keep [] acc ℓ σ=some (.ok vs,σ2)):vs=acc∧σ2=σ:=by
 refine okE h ?_;exact ⟨rfl,rfl⟩
theorem Zh1 {body:L→H→X (Option V)}{tg:Nat}{keep:H→Prop}{v:V}{r acc:List V}{vs:List V}{σ2:H}(h:Q9 body tg keep (v::r) acc ℓ σ=some (.ok vs,σ2)) :
  ∃ℓ1 y σ1,Qh ℓ tg v=some ℓ1∧body ℓ1 σ=some (.ok y,σ1)∧keep σ1∧acc.length<Zl∧Q9 body tg keep r (acc++y.toList) ℓ1 σ1=some (.ok vs,σ2):=by
 refine Zw ((show (Qh ℓ tg v).bind _=_ from h)) fun ℓ1 h1 h=>?_
 refine Yb (h) fun y σ1 h2 h=>?_
 refine Ziy (h) fun h3 h4=>?_
 exact ⟨ℓ1,y,σ1,h1,h2,h3.1,h3.2,h4⟩
set_option tactic.hygienic true in
theorem Zko {elt iter:Expr}{x:Str}{px pos:Pos}{ifs:List Expr}{sc:Scope}{cenv:Env}{c':CEnv}{a:Ex}{fs:Es}{tg:Nat}{src:Src}{k:ItK}{vs:List V}{σ2:H}{ρ2:List Addr}{s4:Shared}{I D C:Addr}
  (hh:A.handled=none) (hx:Um c' x=some tg) (hxl:c'.names.lookup x=some .local) (hcC:cenv.locals=C) (hID:I≠D) (hIC:I≠C) (hDC:D≠C) (hcells:∀y b,(y,b)∈cenv.cells→b≠I∧b≠D)
  (hD0:K.h0.get? D=none) (hs4:∀b∈[I,D,C],∃o,s4.heap.get? b=some o)
  (he:PE K A cenv c' cl elt a) (hf:PF K A cenv c' cl ifs fs) {RR:Shared→Prop}
  (hend:∀s ρ' cacc m,HR K ρ' σ2 s.heap→StepX [I,D,C] ρ2 s4 ρ' s→s.heap.get? D=some (Yd cacc m)→RVs K ρ' s.heap vs cacc→vs.length≤Zl→D ∉ ρ'→(∃m',s.heap.Ns C m')→RR s)
  {E':Value→Shared→Prop} :
  ∀(i:Nat) (s:Shared) (ρ':List Addr) (σ':H) (acc:List V) (ℓ':L) (cacc:List Value) (m:Nat),
   CInv K A cenv c' src k (fun ℓ' σ'=>bok (Ji cl fs ℓ' σ') fun b σ2=>if b then bok (Zg cl a ℓ' σ2) fun v σ3=>some (.ok (some v),σ3) else some (.ok .none,σ2)) tg vs σ2 ρ2 s4 I D C i s ρ' σ' acc ℓ' cacc m→
   codeAny K.M A (.compLoop (.ListComp elt [⟨.Name x px,iter,ifs,0⟩] sc pos) 0 (.ref I) (.ref D) cenv) (fun r s'=>match r with | .ok f=>f=.next∧RR s' | .error e=>E' e s') s:=by
 intro i s ρ' σ' acc ℓ' cacc m inv
 refine codeAny_compLoop_tests (fun n s=>∃i ρ' σ' acc ℓ' cacc m,n=src.vs.length-i∧CInv K A cenv c' src k _ tg vs σ2 ρ2 s4 I D C i s ρ' σ' acc ℓ' cacc m) (fun n s hI=>?_) _ ⟨i,ρ',σ',acc,ℓ',cacc,m,rfl,inv⟩
 clear inv i ρ' σ' acc ℓ' cacc m
 revert hI;refine Zke fun i ρ' σ' acc ℓ' cacc m hn inv=>?_
 have hDnt:∀ws,s.heap.get? D≠some (Zz ws):=by intro ws e;rw[inv.d] at e;exact Ql e
 rcases Nat.lt_or_ge i src.vs.length with hi | hi
 ·-- one more
  have hdrop:src.vs.drop i=src.vs[i]::src.vs.drop (i+1):=List.drop_eq_getElem_cons hi
  have hrun:=inv.run
  rw[hdrop] at hrun
  refine Zf1 (fun ℓ1 y σb hset hbody hkb hlen hrun=>?_) (Zh1 hrun)
  refine Zi8 hh inv.it inv.hr inv.keep (v:=src.vs[i]) (List.getElem?_eq_getElem hi) fun cv h1 tk1 hk1 hr1 rv1 it1=>?_
  have hInt:=inv.it.not_tup
  have foA:FO K A cenv c' ℓ' ρ' h1:=inv.fo.but (by rw[hcC];exact hIC) (fun y b hy=>(hcells y b hy).1) hInt (fun o e=>inv.it.st.nf e) hk1
  have dA:h1.get? D=some (Yd cacc m):=hk1 _ _ (fun e=>hID e.symm) inv.d
  have rvA:RVs K ρ' h1 acc cacc:=inv.rv.but hInt hk1
  have hex:∀b∈[I,D,C],∃o,s.heap.get? b=some o:=ex3 (ItOK.ex0 inv.it) ⟨_,inv.d⟩ (inv.fo.exC hcC)
  have stA:StepX [I,D,C] ρ2 s4 ρ' { s with heap:=h1,toks:=tk1 }:=inv.st.trans ((StepX.one hk1).weaken (by simp)) hex
  refine wpAny_assign_Name (Jn (s:={ s with heap:=h1,toks:=tk1 }) foA hr1 hx hset rv1 fun sB b hb hrB stB foB=>?_)
  have hbC:b=C:=by
   rcases hb with h | ⟨h,_⟩
   ·rw[h,hcC]
   ·rw[hxl] at h;cases h
  subst hbC
  refine rEA (fun mC hnC u2_=>?_) foA.ns
  rw[hcC] at hnC
  have hCnt:=Ns.not_tup hnC
  have hkB:∀z o,z≠b→h1.get? z=some o→z ∉ ρ'→¬ dy o→sB.heap.get? z=some o:=fun z o hz e hzr hc=>stB.ex (s:={ s with heap:=h1,toks:=tk1 }) e hzr (by simpa using hz) hc
  have tupB:∀z ws,h1.get? z=some (Zz ws)→sB.heap.get? z=some (Zz ws):=fun z ws e=>hkB z _ (by rintro rfl;exact hCnt _ e) e (fun hz=>by
   refine rEA (fun ob e' hc=>?_) (hr1.at_ hz);rw[e] at e';obtain rfl:=Option.some.inj e';exact hc _ rfl) nfT
  have dB:sB.heap.get? D=some (Yd cacc m):=hkB D _ hDC dA inv.off nfL
  have rvB:RVs K ρ' sB.heap acc cacc:=rvA.mono (List.prefix_refl _) tupB
  have itB:ItOK K ρ' I (i+1) sB.heap src k:=it1.move (List.prefix_refl _) (fun o e=>hkB I o hIC e it1.off (it1.st.nf e)) tupB it1.off
  have hexA:∀z∈[I,D,b],∃o,h1.get? z=some o:=ex3 (ItOK.ex0 it1) ⟨_,dA⟩ (Ns.ex hnC)
  have stB':StepX [I,D,b] ρ2 s4 ρ' sB:=stA.trans (stB.weaken (by simp)) hexA
  have hexB:∀z∈[I,D,b],∃o,sB.heap.get? z=some o:=ex3 (ItOK.ex0 itB) ⟨_,dB⟩ (foB.exC hcC)
  refine Yb (hbody) fun bb σt ht hbody=>?_
  refine wpAny_mono (hf ℓ1 σ' bb σt ht ρ' sB hrB foB) (fun q sC hq=>?_) fun u_ v_ f=>f.elim
  refine byC fun hX=>?_;revert hq;refine rEA fun ρ1 gC hO2=>?_;obtain rfl:=hO2;refine hX ?_;clear hX
  have foC:=foB.step hrB gC.st
  have dC:sC.heap.get? D=some (Yd cacc m):=gC.st.ex dB inv.off nfL
  have offC:D ∉ ρ1:=fun hm=>by
   rcases gC.st.fresh D hm with h | h
   ·exact inv.off h
   ·rw[dB] at h;exact ns h
  have stC:StepX [I,D,b] ρ2 s4 ρ1 sC:=stB'.trans (gC.st.toX _) hexB
  cases q with
  | false=>
   simp only[Bool.false_eq_true,if_false] at hbody ⊢
   refine byC fun hX=>?_;refine rA (fun hO0 hO1=>?_) (okJ hbody);obtain rfl:=hO0;obtain rfl:=hO1;refine hX ?_;clear hX
   rw[show acc++(none:Option V).toList=acc from List.append_nil _] at hrun
   refine ⟨src.vs.length-(i+1),by exact ln5 [(.eq .v1 .v2),(.lt .v3 .v4),(.sb .v2 .v4 .v3),(.sb .v0 .v4 (.a .v3 .k1))] (.lt .v0 .v1) (.s (.s (.d 1101000101) (.d 1101100101)) (.s (.d 100011) (.d 100011))) rfl hn hi (Zd _ _) (Zd _ _),i+1,ρ1,_,acc,ℓ1,cacc,m,rfl,⟨hrun,gC.hr,stC,itB.step hrB gC.st,hkb,dC,rvB.step hrB gC.st,inv.len,offC,foC,hi⟩⟩
  | true=>
   simp only[if_true] at hbody ⊢
   refine Yb (hbody) fun w σe hw hbody=>?_
   refine byC fun hX=>?_;refine rA (fun hO0 hO1=>?_) (okJ hbody);obtain rfl:=hO0;obtain rfl:=hO1;refine hX ?_;clear hX
   refine wpAny_mono (he ℓ1 σt w _ hw ρ1 sC gC.hr foC) (fun cw sD hq=>?_) fun u_ v_ f=>f.elim
   revert hq;refine rEA fun ρd gD rw'=>?_
   have foD:=foC.step gC.hr gD.st
   have dD:sD.heap.get? D=some (Yd cacc m):=gD.st.ex dC offC nfL
   have offD:D ∉ ρd:=fun hm=>by
    rcases gD.st.fresh D hm with h | h
    ·exact offC h
    ·rw[dC] at h;exact ns h
   have hexC:∀z∈[I,D,b],∃o,sC.heap.get? z=some o:=ex3 (ItOK.ex0 (itB.step hrB gC.st)) ⟨_,dC⟩ (foC.exC hcC)
   have stD:StepX [I,D,b] ρ2 s4 ρd sD:=stC.trans (gD.st.toX _) hexC
   have itD:=(itB.step hrB gC.st).step gC.hr gD.st
   have rvD:=(rvB.step hrB gC.st).step gC.hr gD.st
   refine wpAny_list_append_plain (items:=cacc.toArray) ⟨m,dD⟩ (fun h' hp hs'=>?_) (by have:=Ug inv.rv inv.len;simpa using this)
   revert hp;refine rE fun m2 hp=>?_
   have hkE:∀z o,z≠D→sD.heap.get? z=some o→h'.get? z=some o:=fun z o hz e=>(hs'.2 z hz).trans e
   have hDnt':∀ws,sD.heap.get? D≠some (Zz ws):=by intro ws e;rw[dD] at e;exact Ql e
   have hexD:∀z∈[I,D,b],∃o,sD.heap.get? z=some o:=ex3 (ItOK.ex0 itD) ⟨_,dD⟩ (foD.exC hcC)
   refine ⟨src.vs.length-(i+1),by exact ln5 [(.eq .v1 .v2),(.lt .v3 .v4),(.sb .v2 .v4 .v3),(.sb .v0 .v4 (.a .v3 .k1))] (.lt .v0 .v1) (.s (.s (.d 1101000101) (.d 1101100101)) (.s (.d 100011) (.d 100011))) rfl hn hi (Zd _ _) (Zd _ _),i+1,ρd,_,acc++[w],ℓ1,cacc++[cw],m2,rfl,⟨hrun,gD.hr.but offD hD0 hDnt' hkE,stD.trans ((StepX.one hkE).weaken (by simp)) hexD,itD.but hDnt' hID hkE,hkb,?_,?_,?_,offD,?_,hi⟩⟩
   ·rw[hp];simp
   ·exact (rvD.but hDnt' hkE).append (.cons (rw'.but hDnt' hkE) .nil)
   ·simp;exact ln2 [(.lt .v0 .v1)] (.le (.a .v0 .k1) .v1) (.d 111) rfl hlen
   ·exact foD.but (by rw[hcC];exact hDC) (fun y z hy=>(hcells y z hy).2) hDnt' (fun o e=>by rw[dD] at e;refine siE e ?_;exact nfL) hkE
 ·-- the end
  have hii:i=src.vs.length:=by have:=inv.le;lia
  subst hii
  have hrun:=inv.run
  rw[List.drop_length] at hrun
  refine byC fun hX=>?_;refine rA (fun hO0 hO1=>?_) (Zkn hrun);obtain rfl:=hO0;obtain rfl:=hO1;refine hX ?_;clear hX
  refine Zi9 hh inv.it inv.hr inv.keep rfl fun h1 tk1 hk1 hr1=>?_
  have hInt:=inv.it.not_tup
  have hex:∀b∈[I,D,C],∃o,s.heap.get? b=some o:=ex3 (ItOK.ex0 inv.it) ⟨_,inv.d⟩ (inv.fo.exC hcC)
  refine ⟨rfl,hend { s with heap:=h1,toks:=tk1 } ρ' cacc m hr1 (inv.st.trans ((StepX.one hk1).weaken (by simp)) hex) (hk1 _ _ (fun e=>hID e.symm) inv.d) (inv.rv.but hInt hk1) inv.len inv.off ?_⟩
  refine rEA (fun m' hn' u2_=>?_) ((inv.fo.but (by rw[hcC];exact hIC) (fun y b hy=>(hcells y b hy).1) hInt (fun o e=>inv.it.st.nf e) hk1).ns)
  rw[hcC] at hn'
  exact ⟨m',hn'⟩
end
section
variable {K:Kx}{A:Around}{env:Env}{c:CEnv}{cl:Cl}{T:Tabs}
structure CEnd (K:Kx)(ρ:List Addr)(s:Shared)(σ2:H)(vs:List V)(D C:Addr)(ρ':List Addr)(s':Shared)(cacc:List Value)(m:Nat):Prop where
 hr:HR K ρ' σ2 s'.heap
 st:Step ρ s ρ' s'
 d:s'.heap.get? D=some (Yd cacc m)
 rv:RVs K ρ' s'.heap vs cacc
 len:vs.length≤Zl
 off:D ∉ ρ'
 offC:C ∉ ρ'
 newD:s.heap.get? D=none
 newC:s.heap.get? C=none
 ne:D≠C
 d0:K.h0.get? D=none
 c0:K.h0.get? C=none
 ns:∃m',s'.heap.Ns C m'
set_option tactic.hygienic true in
theorem Zd6 {elt iter:Expr}{x:Str}{px pos pos':Pos}{ifs:List Expr}{sc:Scope}{a:Ex}{it:It}{fs:Es}{tg:Nat}(hh:A.handled=none)(ok:CompOK c sc)(hs:∀v,foldedSetIterable iter env v=pure v)
  (hx:Um (Jb c sc) x=some tg) (hxl:(Jb c sc).names.lookup x=some .local) (hI:PI K A env c cl iter it) (he:∀cenv,PE K A cenv (Jb c sc) cl elt a) (hf:∀cenv,PF K A cenv (Jb c sc) cl ifs fs)
  {ℓ:L}{σ σ1 σ2:H}{src:Src}{vs:List V} (h1:Wy cl it ℓ σ=some (.ok src,σ1))
  (h2:Q9 (fun ℓ' σ'=>bok (Ji cl fs ℓ' σ') fun b σ2=>if b then bok (Zg cl a ℓ' σ2) fun v σ3=>some (.ok (some v),σ3) else some (.ok .none,σ2)) tg src.keep src.vs [] ℓ σ1=some (.ok vs,σ2))
  {ρ:List Addr}{s:Shared} (hr:HR K ρ σ s.heap) (fo:FO K A env c ℓ ρ s.heap) {use:Option (Value→Sem Unit)}{Q:Value→Shared→Prop}{E:Value→Shared→Prop}
  (hend:∀s' D C ρ' cacc m,CEnd K ρ s σ2 vs D C ρ' s' cacc m→compPost K.M A E use Q (.ref D) C (.ok .next) s') :
  wpAny K.M A (comprehension (.ListComp elt [⟨.Name x px,iter,ifs,0⟩] sc pos) sc env pos' (newList []) false (eval iter env) use) Q E s:=by
 have hclos:closureFor sc env=pure (Uh env sc.names []):=Zdt env sc fun n hn=>by
  refine Jz (fun b u1_ e u3_=>?_) (fo.cell n (ok.frees n hn));rw[e];rfl
 refine wpAny_comprehension_free (g:=⟨.Name x px,iter,ifs,0⟩) (gs:=[]) rfl hs hclos ok.kind (fun y hy hl=>Jp ok.nd (by rw[← hl];exact hy)) ?_
 refine wpAny_mono (hI ℓ σ src σ1 h1 ρ s hr fo) (fun xv s1 hq=>wpAny_mono hq (fun itv s2 hq=>?_) fun u_ v_ f=>f.elim) fun u_ v_ f=>f.elim
 revert hq;refine Zf1 fun ρ2 I k hO3 g2 itok hkeep hInone=>?_;refine eqS hO3 ?_
 refine rEA (fun oI eI u2_=>?_) itok.st.obj
 -- the list that is filled
 refine wpAny_newList ?_
 have fr2:=Qw g2.hr
 refine wpAny_newFunctionEnv ok.nocell (by intro y hy;cases hy) (fun h4 hns4 hsb4=>?_) ok.kind
 have hpD' : ({ s2 with heap := s2.heap.push { cls := .type "list", data := .seq ([] : List Value).toArray } } : Shared).heap.objs.size = s2.heap.objs.size + 1 := Heap.size_push ..
 rw[hpD'] at hns4 hsb4 ⊢
 obtain ⟨D,hD⟩ : ∃D:Nat,s2.heap.objs.size=D:=⟨_,rfl⟩
 obtain ⟨C,hC⟩ : ∃C:Nat,s2.heap.objs.size+1=C:=⟨_,rfl⟩
 rw[hC] at hns4 hsb4 ⊢
 rw[hD] at fr2 ⊢
 have hDC:D≠C:=by exact ln3 [(.eq .v2 .v0),(.eq (.a .v2 .k1) .v1)] (.no (.eq .v0 .v1)) (.d 101011) rfl hD hC
 have hlt:∀{b:Addr}{o:Obj},s2.heap.get? b=some o→@LT.lt Nat _ b D∧@LT.lt Nat _ b C:=fun {b o} e=>by
  have h9 : @LT.lt Nat _ b s2.heap.objs.size:=Heap.lt_size e
  lia
 have hID:I≠D:=Nat.ne_of_lt (hlt eI).1
 have hIC:I≠C:=Nat.ne_of_lt (hlt eI).2
 have old:∀b o,s2.heap.get? b=some o→h4.get? b=some o:=by
  intro b o e
  exact (hsb4.2 b (Nat.ne_of_lt (hlt e).2)).trans (Heap.get?_push_of_some _ (Heap.get?_push_of_some _ e))
 have dD:h4.get? D=some (Yd [] 0):=by
  refine (hsb4.2 D hDC).trans (Heap.get?_push_of_some _ ?_)
  have:=Heap.get?_push_size s2.heap (o:=Yd [] 0) rfl
  rw[hD] at this;exact this
 have hnoneD:s2.heap.get? D=none:=by rw[← hD];exact get?_size _
 have hnoneC:s2.heap.get? C=none:=by
  cases e:s2.heap.get? C with
  | none=>rfl
  | some o=>exact absurd (hlt e).2 (Nat.lt_irrefl _)
 have hC0:K.h0.get? C=none:=by
  cases e:K.h0.get? C with
  | none=>rfl
  | some o=>rw[g2.hr.keep _ _ e] at hnoneC;exact ns hnoneC
 have hCρ:C ∉ ρ2:=fun hm=>by refine rEA (fun ob e u2_=>?_) (g2.hr.at_ hm);rw[hnoneC] at e;exact nn e
 have g4:Good K ρ2 s2 ρ2 σ1 { s2 with heap:=h4,toks:=s2.toks+([]:List (Str×Value)).length }:=Good.grow g2.hr old _
 have fo2:=fo.step hr g2.st
 have fo4:=fo2.step g2.hr g4.st
 have hcn:∀y b,(y,b)∈env.cells→b≠I∧b≠D∧b≠C:=by
  intro y b hy
  refine Zac (fun u0_ u1_ u2_ o e u5_=>?_) (fo.cnew y b hy)
  refine rEA (fun o2 hb2 u2_=>?_) (Xu (g2.st.fr b _ (J7 e) (fo.cnew y b hy).1))
  refine ⟨?_,?_,?_⟩
  ·rintro rfl;rw[hInone] at e;exact nn e
  ·rintro rfl;rw[hnoneD] at hb2;exact nn hb2
  ·rintro rfl;rw[hnoneC] at hb2;exact nn hb2
 have hnsC:h4.Ns C fun u_=>none:=hns4
 have foC:FO K A (compEnvC sc (Uh env sc.names []) C env) (Jb c sc) ℓ ρ2 h4:=Zop fo4 ok hnsC hCρ hC0 fun y b hy=>(hcn y b hy).2.2
 have hcc:∀y b,(y,b)∈Uh env sc.names []→b≠I∧b≠D:=by
  intro y b hy
  rcases Zak hy with h | ⟨hf',hb⟩
  ·cases h
  ·refine Jz (fun b' u1_ e u3_=>?_) (fo.cell y (ok.frees y hf'))
   rw[e] at hb;simp at hb;subst hb
   have:=hcn y b (mem_of_lookup e)
   exact ⟨this.1,this.2.1⟩
 have Zl8 : codeAny K.M A (.compLoop (.ListComp elt [⟨.Name x px, iter, ifs, 0⟩] sc pos) 0 (.ref I) (.ref D) (compEnvC sc (Uh env sc.names []) C env)) (compPost K.M A E use Q (.ref D) C)
   { s2 with heap:=h4,toks:=s2.toks+([]:List (Str×Value)).length }:=by
  refine codeAny_mono (Zko (E':=fun e s'=>compPost K.M A E use Q (.ref D) C (.error e) s') (RR:=fun s'=>compPost K.M A E use Q (.ref D) C (.ok .next) s') (ρ2:=ρ2) (s4:={ s2 with heap:=h4,toks:=s2.toks+([]:List (Str×Value)).length }) (C:=C) (σ2:=σ2) (vs:=vs)
   hh hx hxl rfl hID hIC hDC hcc fr2.2 ?_ (he _) (hf _) (fun s' ρ' cacc m e1 e2 e3 e4 e5 e6 e7=>?_) 0 _ ρ2 σ1 [] ℓ [] 0
   ⟨h2,g4.hr,StepX.refl _ _ _,itok.step g2.hr g4.st,hkeep,dD,.nil,Nat.zero_le _,fr2.1,foC,Nat.zero_le _⟩) fun r s' hq=>?_
  ·intro b hb
   simp only[List.mem_cons,List.not_mem_nil,or_false] at hb
   rcases hb with rfl | rfl | rfl
   ·exact ⟨oI,old _ _ eI⟩
   ·exact ⟨_,dD⟩
   ·exact Ns.ex hnsC
  ·refine hend s' D C ρ' cacc m ⟨e1,?_,e3,e4,e5,e6,fun hm=>?_,g2.back hnoneD,g2.back hnoneC,hDC,fr2.2,hC0,e7⟩
   ·have hid : ∀ z ∈ [I, D, C], s.heap.get? z = none := by
     intro z hz
     simp only[List.mem_cons,List.not_mem_nil,or_false] at hz
     rcases hz with rfl | rfl | rfl
     ·exact hInone
     ·exact g2.back hnoneD
     ·exact g2.back hnoneC
    have t1:=g2.st.trans g4.st
    refine ⟨t1.pre.trans e2.pre,fun z o e hz=>?_,fun z hz=>?_,e2.gens.trans t1.gens,e2.os.trans t1.os⟩
    ·have hz4:=t1.fr z o e hz
     refine e2.fr z o hz4 (fun h=>?_) fun h=>?_
     ·rcases t1.fresh z h with h | h
      ·exact hz h
      ·rw[ng_none.mpr h] at e;exact nn e
     ·rw[ng_none.mpr (hid z h)] at e;exact nn e
    ·rcases e2.fresh z hz with h | h
     ·exact t1.fresh z h
     ·by_cases hr':z∈ρ
      ·exact .inl hr'
      ·right
       cases hg:s.heap.get? z with
       | none=>rfl
       | some o=>have:=t1.fr z _ (J7 hg) hr';rw[ng_none.mpr h] at this;exact nn this
   ·rcases e2.fresh C hm with h | h
    ·exact hCρ h
    ·refine rE (fun o e=>?_) (Ns.ex hnsC);rw[e] at h;exact ns h
  ·cases r with
   | ok f=>refine byC fun hX=>?_;revert hq;refine rA fun hO0 hq=>?_;obtain rfl:=hO0;refine hX ?_;clear hX;exact hq
   | error e=>exact hq
 show codeAny K.M A (.compStart (.ListComp elt [⟨.Name x px,iter,ifs,0⟩] sc pos) 0 (.ref I) (.ref D) (compEnvC sc (Uh env sc.names []) C env)) (compPost K.M A E use Q (.ref D) C) { s2 with heap:=h4,toks:=s2.toks+([]:List (Str×Value)).length }
 exact codeAny_compStart_list Zl8 (Zok hh (itok.step g2.hr g4.st) Zl8)
theorem CEnd.done {σ2:H}{vs:List V}{D C:Addr}{cacc:List Value}{m:Nat}(x:CEnd K ρ s σ2 vs D C ρ' s' cacc m)(hs:Heap.SameBut C s'.heap h') :
  ∃ρ'',Good K ρ s ρ'' (σ2++[.list vs]) { s' with heap:=h' }∧RV K ρ'' h' (.obj σ2.length) (.ref D)∧C ∉ ρ'':=by
 refine rE (fun m' hn=>?_) x.ns
 have hbut:∀b o,b≠C→s'.heap.get? b=some o→h'.get? b=some o:=fun b o hb e=>(hs.2 b hb).trans e
 have hr1:HR K ρ' σ2 h':=x.hr.but x.offC x.c0 (Ns.not_tup hn) hbut
 have hd:h'.get? D=some (Yd cacc m):=hbut _ _ x.ne x.d
 refine ⟨ρ'++[D],⟨⟨hr1.keep,by simp[hr1.len],?_,fun b hb=>?_,fun n o b g1 g2=>?_⟩,⟨x.st.pre.trans (List.prefix_append _ _),fun b o e hb=>?_,fun b hb=>?_,x.st.gens,x.st.os⟩⟩,.obj ?_,fun hm=>?_⟩
 ·rw[List.nodup_append];exact ⟨hr1.nd,by simp,fun b hb z hz e=>by simp at hz;exact x.off (hz▸e▸hb)⟩
 ·rcases List.mem_append.mp hb with h | h
  ·exact hr1.new b h
  ·rw[List.mem_singleton.mp h];exact x.d0
 ·by_cases hlt:n<σ2.length
  ·rw[List.getElem?_append_left hlt] at g1
   rw[List.getElem?_append_left (by rw[hr1.len];exact hlt)] at g2
   exact (hr1.obj n o b g1 g2).mono (List.prefix_append _ _) fun u_ v_ e=>e
  ·have hn':n=σ2.length:=by have:=(List.getElem?_eq_some_iff.mp g1).1;simp at this;lia
   subst hn'
   rw[List.getElem?_append_right (Nat.le_refl _)] at g1
   rw[List.getElem?_append_right (by rw[hr1.len];exact Nat.le_refl _)] at g2
   simp[hr1.len] at g1 g2
   rw[← g1,← g2]
   exact ⟨cacc,m,hd,(x.rv.but (Ns.not_tup hn) hbut).mono (List.prefix_append _ _) (fun u_ v_ e=>e),x.len⟩
 ·have:=x.st.fr b o e hb
  exact Uz (fun o h=>hbut b o (by rintro rfl;rw[ng_none.mpr x.newC] at e;exact nn e) h) this
 ·rcases List.mem_append.mp hb with h | h
  ·exact x.st.fresh b h
  ·rw[List.mem_singleton.mp h];exact .inr x.newD
 ·rw[List.getElem?_append_right (by rw[hr1.len];exact Nat.le_refl _),hr1.len];simp
 ·rcases List.mem_append.mp hm with h | h
  ·exact x.offC h
  ·exact x.ne (List.mem_singleton.mp h).symm
theorem Zoq {elt iter:Expr}{x:Str}{px pos:Pos}{ifs:List Expr}{sc:Scope}{a:Ex}{it:It}{fs:Es}{tg:Nat}(hh:A.handled=none)(ok:CompOK c sc)(hs:∀v,foldedSetIterable iter env v=pure v)
  (hx:Um (Jb c sc) x=some tg) (hxl:(Jb c sc).names.lookup x=some .local) (hI:PI K A env c cl iter it) (he:∀cenv,PE K A cenv (Jb c sc) cl elt a) (hf:∀cenv,PF K A cenv (Jb c sc) cl ifs fs) :
  PE K A env c cl (.ListComp elt [⟨.Name x px,iter,ifs,0⟩] sc pos) (.comp a tg it fs):=by
 intro ℓ σ v σ' hev ρ s hr fo
 skip
 refine Yb (hev) fun src σ1 h1 hev=>?_
 refine Yb (hev) fun vs σ2 h2 hev=>?_
 refine okE hev ?_
 rw[eval_ListComp]
 refine Zd6 hh ok hs hx hxl hI he hf h1 h2 hr fo fun s' D C ρ' cacc m e=>?_
 refine ⟨_,e.ns.choose_spec,fun h' hs'=>?_⟩
 refine J5 (fun ρ'' g r u3_=>?_) (e.done hs')
 exact ⟨ρ'',g,r⟩
end
noncomputable def Ze8 (K:Kx)(A:Around)(cl:Cl):Prop :=
 ∀f vs σ v σ',cl.call f vs σ=some (.ok v,σ')→∀ρ s cvs,HR K ρ σ s.heap→RVs K ρ s.heap vs cvs→FF K A ρ s.heap→TR K A (call (.ref (K.fna f)) cvs) ρ s σ' fun ρ' cv s'=>RV K ρ' s'.heap v cv
section
variable {K:Kx}{A:Around}{env:Env}{c:CEnv}{cl:Cl}{T:Tabs}
structure Plain (e:Expr)(f:Nat):Prop where
 fold:∀env v,foldedSetIterable e env v=pure v
 mark:∀op,behindInMarks op e=false
 star:∀env es,starEach (e::es) env=(false,eval e env)::starEach es env
 sw:f≠1→∀t l env,swapsWith e t l env=pure false
 base:f≠2→∀env name w,attributeBase e name env w=w
 sole:f=3→∀ts k px l env,swapsWithSole [.Tuple ts k px] e l env=pure false∧swappedStores [.Tuple ts k px] e env=pure none
noncomputable def Xy (es:List Expr):Prop:=∀env,starEach es env=es.map fun e=>(false,eval e env)
theorem Za0:Xy []:=fun u_=>rfl
theorem Wc {e:Expr}{f:Nat}{es:List Expr}(h:Plain e f)(k:Xy es):Xy (e::es):=fun env=>(h.star env es).trans (congrArg _ (k env))
theorem Yt {es:List Expr}(h:Xy es)(pos:Pos):backTo pos (starEach es env)=es.map fun e=>(false,eval e env):=by
 rw[h,backTo,List.map_map];rfl
theorem Uy {f:Value}{xs:List Expr}{Q:Args→Shared→Prop}{E:Value→Shared→Prop}(h:wpAny K.M A (spliced (xs.map fun e=>(false,eval e env))) (fun vs s'=>Q ⟨vs,[]⟩ s') E s) :
  wpAny K.M A (evalArgs f true (xs.map fun e=>(false,eval e env)) []) Q E s:=by
 cases xs with
 | nil=>
  unfold evalArgs
  show wpAny K.M A (spliced [] >>= _) Q E s
  refine wpAny_bind (wpAny_mono h (fun vs s' h'=>?_) fun u_ v_ x=>x)
  refine wpAny_holding ?_
  exact wpAny_bind (wpAny_pure (wpAny_bind (wpAny_pure (wpAny_pure h'))))
 | cons x r=>exact Calls.evalArgs_plain h
theorem Zkp (xs:List Expr):(xs.map fun e=>((false,eval e env):Bool×Sem Value)).any (·.1)=false:=by
 induction xs with
 | nil=>rfl
 | cons x r ih=>simp
theorem Jq {pos:Pos}{f:Value}(hf:keeperOf f=pure .machine){first:List Value}{xs:List Expr}{Q:Value→Shared→Prop}{E:Value→Shared→Prop} 
  (h:wpAny K.M A (spliced (xs.map fun e=>(false,eval e env))) (fun vs s₁=>wpAny K.M A (call f (first++vs) []) Q E s₁) E s):wpAny K.M A (callWith pos f first (xs.map fun e=>(false,eval e env)) []) Q E s:=by
 unfold callWith
 refine wpAny_bind (wpAny_holding (Uy (wpAny_mono h (fun a s₁ h₁=>wpAny_bind (wpAny_standAt ?_)) fun u_ v_ x=>x)))
 rw[Zkp,List.any_nil,Bool.or_false,hf]
 exact wpAny_bind (wpAny_pure (wpAny_bind (wpAny_mono h₁ (fun r s₂ hr=>wpAny_bind (wpAny_holding (wpAny_point (wpAny_pure hr)))) fun u_ v_ x=>x)))
theorem Zsc (G:GK K T) (ty:TyOK K) {f:Str} {p pos:Pos} {es:List Expr} {as:Es} {b:Blt} (hh:b≠.isinstance→b≠.int→A.handled=none) (hsort:b=.sorted→∀(σ σ':H) (vs:List V) (v:V),Wa b vs σ=some (v,σ')→∀(ρ:List Addr) (s:Shared) (cas:List Value),HR K ρ σ s.heap→RVs K ρ s.heap vs cas →
      TR K A (call (Zbj b) cas) ρ s σ' fun ρ' cv s'=>RV K ρ' s'.heap v cv)
    (hg:Y5 c f=true) (hb:T.blts.lookup f=some b) (hc:Xy es) (h:PEs K A env c cl es as):PE K A env c cl (.Call (.Name f p) es [] pos) (.blt b as):=by
  intro ℓ σ v σ' he ρ s hr fo
  skip
  refine Yb (he) fun vs σ1 h1 he=>?_
  have he:=Zax he
  show TR K A (eval (.Name f p) env >>= fun fv=>callWith pos fv [] (backTo pos (starEach es env)) []) ρ s σ' _
  refine wpAny_bind (J8 hr fo hg (G.bl f b hb) ?_)
  rw[Yt hc]
  refine Jq (by cases b <;> rfl) ?_
  have hp:=h pos ℓ σ vs σ1 h1 ρ s hr fo
  rw[Yt hc] at hp
  refine wpAny_mono hp (fun cvs s1 hq=>?_) fun u_ v_ f=>f
  revert hq;refine rEA fun ρ1 g1 rvs=>?_
  rw[List.nil_append]
  by_cases hbs:b=.sorted
  · exact TR.after g1 (hsort hbs σ1 σ' vs v he ρ1 s1 cvs g1.hr rvs)
  · exact TR.after g1 (Zkl he hbs g1.hr rvs hh ty)
theorem Zlw (hr:HR K ρ σ s.heap){a b:Int}{t u v:Tok}{r:Addr}(hR:IsRange s.heap r a b 1 t u v)(ha : -Zl≤a∧a≤Zl)(hb : -Zl≤b∧b≤Zl){Q:Value→Shared→Prop}{E:Value→Shared→Prop}
  (hq:∀h',Good K ρ s ρ σ { s with heap:=h' }→ItOK K ρ s.heap.objs.size 0 h' ⟨Zll a b,fun u_=>True⟩ (.rng a (b-a).toNat)→Q (.ref s.heap.objs.size) { s with heap:=h' }):wpAny K.M A (pyIter (.ref r)) Q E s:=by
 refine rA (fun f1 f2=>?_) (Qw hr)
 unfold Zl at ha hb
 refine wpAny_pyIter_range hR ?_ (hq _ (Good.tmp hr _ _) ⟨?_,⟨rfl,rfl⟩,f1,f2⟩)
 ·have fit : ∀ z : Int, -2000000 ≤ z → z ≤ 2000000 → Builtin.Range.rangeFitsLong z = true := by
   intro z h1 h2;unfold Builtin.Range.rangeFitsLong;simp;exact lz1 [(.zle (.g (.k 2000000)) .v0),(.zle .v0 (.k 2000000))] (.an (.zle (.g (.k 9223372036854775808)) .v0) (.zlt .v0 (.k 9223372036854775808))) (.s (.d 111) (.d 1101)) rfl h1 h2
  unfold Builtin.Range.small Builtin.Range.rangeSize
  simp only[Bool.and_eq_true,Bool.or_eq_true]
  have hz:Builtin.Range.rangeFitsLong (if (1:Int)>0 then (if a<b then (b-a-1) / 1+1 else 0) else (if a>b then (a-b-1) / (-1)+1 else 0))=true:=by
   rw[if_pos (by decide)];split <;> exact fit _ (by lia) (by lia)
  refine ⟨⟨⟨⟨fit a (by exact lz1 [(.an (.zle (.g (.n (.k 1000000))) .v0) (.zle .v0 (.n (.k 1000000))))] (.zle (.g (.k 2000000)) .v0) (.d 111) rfl ha) (by exact lz1 [(.an (.zle (.g (.n (.k 1000000))) .v0) (.zle .v0 (.n (.k 1000000))))] (.zle .v0 (.k 2000000)) (.d 1101) rfl ha),fit b (by exact lz1 [(.an (.zle (.g (.n (.k 1000000))) .v0) (.zle .v0 (.n (.k 1000000))))] (.zle (.g (.k 2000000)) .v0) (.d 111) rfl hb) (by exact lz1 [(.an (.zle (.g (.n (.k 1000000))) .v0) (.zle .v0 (.n (.k 1000000))))] (.zle .v0 (.k 2000000)) (.d 1101) rfl hb)⟩,fit 1 (by exact lin [] (.zle (.g (.k 2000000)) .k1) (.d 11) rfl [] []) (by exact lin [] (.zle .k1 (.k 2000000)) (.d 11) rfl [] [])⟩,hz⟩,?_⟩
  right
  simp
  exact fit b (by exact lz1 [(.an (.zle (.g (.n (.k 1000000))) .v0) (.zle .v0 (.n (.k 1000000))))] (.zle (.g (.k 2000000)) .v0) (.d 111) rfl hb) (by exact lz1 [(.an (.zle (.g (.n (.k 1000000))) .v0) (.zle .v0 (.n (.k 1000000))))] (.zle .v0 (.k 2000000)) (.d 1101) rfl hb)
 ·show IsRangeIter _ _ _ _ _
  have e:Builtin.Range.rangeSize a b 1=(((b-a).toNat:Nat):Int):=by
   unfold Builtin.Range.rangeSize;simp;lia
  have := Heap.get?_push_size s.heap (o := { cls := .type "range_iterator", data := .fields #[rawInt a, rawInt (Builtin.Range.rangeSize a b 1), rawInt 1] }) rfl
  rw[e] at this ⊢
  simpa[IsRangeIter] using this
set_option tactic.hygienic true in
theorem Zor (G:GK K T){f:Str}{p pos:Pos}{es:List Expr}{a:Ex}(hg:Y5 c f=true)(hf:(f == Wk)=true)(hc:Xy es)(h:PEs K A env c cl es (.cons a .nil)):PI K A env c cl (.Call (.Name f p) es [] pos) (.rng1 a):=by
 intro ℓ σ src σ' he ρ s hr fo
 skip
 refine Yb (he) fun x σ1 h1 he=>?_
 obtain rfl:=beq_iff_eq.mp hf
 show wpAny K.M A (eval (.Name Wk p) env >>= fun fv=>callWith pos fv [] (backTo pos (starEach es env)) []) _ _ s
 refine wpAny_bind (J8 hr fo hg G.rg ?_)
 rw[Yt hc]
 refine Jq rfl ?_
 have hp:=h pos ℓ σ [x] σ1 (by show bok (Zg cl _ ℓ σ) _=_;rw[h1];rfl) ρ s hr fo
 rw[Yt hc] at hp
 refine wpAny_mono hp (fun cvs s1 hq=>?_) fun u_ v_ f=>f
 revert hq;refine rEA fun ρ1 g1 rvs=>?_
 cases x with
 | int b=>
  simp only at he
  split at he
  ·rename_i hb
   refine okE he ?_
   refine Ym (fun u0_ u1_ hO2 r0 rn=>?_) (rvs.consI);refine eqS hO2 ?_
   obtain rfl:=rn.nilI
   refine byC fun hX=>?_;refine rE (fun t hO1=>?_) (r0.intI rfl);obtain rfl:=hO1;refine hX ?_;clear hX
   refine call_range_1 ?_
   have g2 := Good.tmp g1.hr { cls := .type "range", data := .fields #[.int 0 s1.toks, .int b t, .int 1 (s1.toks + 1)] } (s1.toks + 1 + 1)
   refine Zlw g2.hr (Heap.get?_push_size _ rfl) (by unfold Zl;exact lin [] (.an (.zle (.g (.n (.k 1000000))) .k0) (.zle .k0 (.n (.k 1000000)))) (.s (.d 11) (.d 11)) rfl [] []) hb fun h' g ok=>⟨ρ1,_,_,rfl,(g1.trans g2).trans g,ok,trivial,(g1.trans g2).back (get?_size _)⟩
  ·exact nn he
 | _=>exact nn he
set_option tactic.hygienic true in
theorem Zos (G:GK K T){f:Str}{p pos:Pos}{es:List Expr}{a a':Ex}(hg:Y5 c f=true)(hf:(f == Wk)=true)(hc:Xy es)(h:PEs K A env c cl es (.cons a (.cons a' .nil))) :
  PI K A env c cl (.Call (.Name f p) es [] pos) (.rng2 a a'):=by
 intro ℓ σ src σ' he ρ s hr fo
 skip
 refine Yb (he) fun x σ1 h1 he=>?_
 refine Yb (he) fun y σ2 h2 he=>?_
 obtain rfl:=beq_iff_eq.mp hf
 show wpAny K.M A (eval (.Name Wk p) env >>= fun fv=>callWith pos fv [] (backTo pos (starEach es env)) []) _ _ s
 refine wpAny_bind (J8 hr fo hg G.rg ?_)
 rw[Yt hc]
 refine Jq rfl ?_
 have hp:=h pos ℓ σ [x,y] σ2 (by show bok (Zg cl _ ℓ σ) _=_;rw[h1];show bok (bok (Zg cl _ ℓ σ1) _) _=_;rw[h2];rfl) ρ s hr fo
 rw[Yt hc] at hp
 refine wpAny_mono hp (fun cvs s1 hq=>?_) fun u_ v_ f=>f
 revert hq;refine rEA fun ρ1 g1 rvs=>?_
 cases x with
 | int a0=>
  cases y with
  | int b0=>
   simp only at he
   split at he
   ·rename_i hb
    refine okE he ?_
    refine Ym (fun u0_ u1_ hO2 r0 rn=>?_) (rvs.consI);refine eqS hO2 ?_
    refine byC fun hX=>?_;obtain ⟨_,_,rfl,r1,rn⟩:=rn.consI;refine hX ?_;clear hX
    obtain rfl:=rn.nilI
    refine byC fun hX=>?_;refine rE (fun t hO1=>?_) (r0.intI rfl);obtain rfl:=hO1;refine hX ?_;clear hX
    refine byC fun hX=>?_;refine rE (fun u hO1=>?_) (r1.intI rfl);obtain rfl:=hO1;refine hX ?_;clear hX
    refine call_range_2 ?_
    have g2 := Good.tmp g1.hr { cls := .type "range", data := .fields #[.int a0 t, .int b0 u, .int 1 s1.toks] } (s1.toks + 1)
    refine Zlw g2.hr (Heap.get?_push_size _ rfl) hb.1 hb.2 fun h' g ok=>⟨ρ1,_,_,rfl,(g1.trans g2).trans g,ok,trivial,(g1.trans g2).back (get?_size _)⟩
   ·exact nn he
  | _=>exact nn he
 | _=>exact nn he
theorem HR.nt (x:HR K ρ σ h){a:Addr}(ha:a∈ρ):∀ws,h.get? a≠some (Zz ws):=by
 intro ws e
 refine rEA (fun ob e' hc=>?_) (x.at_ ha)
 rw[e] at e';obtain rfl:=Option.some.inj e';exact hc _ rfl
theorem HR.setO (x:HR K ρ σ h){n:Nat}{a:Addr}{o0 o1:O}(hn:σ[n]?=some o0)(ha:ρ[n]?=some a)(hd:OR K ρ h' a o1)(hk:∀b o,b≠a→h.get? b=some o→h'.get? b=some o):HR K ρ (σ.set n o1) h':=by
 have hnt:=x.nt (List.mem_of_getElem? ha)
 have a0:=x.new a (List.mem_of_getElem? ha)
 refine ⟨fun b o e=>hk b o (by rintro rfl;rw[a0] at e;exact nn e) (x.keep b o e),by simp[x.len],x.nd,x.new,fun k o b h1 h2=>?_⟩
 by_cases hkn:k=n
 ·subst hkn
  rw[ha] at h2;refine siE h2 ?_
  have hlt:=(List.getElem?_eq_some_iff.mp hn).1
  rw[List.getElem?_set_self hlt] at h1;refine siE h1 ?_
  exact hd
 ·rw[List.getElem?_set_ne (fun e=>hkn e.symm)] at h1
  have hba:b≠a:=by
   rintro rfl
   exact hkn ((List.getElem?_inj (List.getElem?_eq_some_iff.mp h2).1 x.nd).mp (h2.trans ha.symm))
  exact (x.obj k o b h1 h2).move (List.prefix_refl _) (fun b ws eb=>hk _ _ (by rintro rfl;exact hnt _ eb) eb) fun o e=>Uz (fun o e=>hk _ _ hba e) e
theorem HR.setList (x:HR K ρ σ h){n:Nat}{a:Addr}{l':List V}{vs':List Value}{m':Nat}{o0:O}(hn:σ[n]?=some o0)(ha:ρ[n]?=some a)(hd:h'.get? a=some (Yd vs' m'))(hk:∀b o,b≠a→h.get? b=some o→h'.get? b=some o)
  (r:RVs K ρ h l' vs') (hl:l'.length≤Zl):HR K ρ (σ.set n (.list l')) h' :=
 x.setO hn ha ⟨vs',m',hd,r.but (x.nt (List.mem_of_getElem? ha)) hk,hl⟩ hk
theorem Step.set {a:Addr}{t:Nat}(ha:a∈ρ)(hk:∀b o,b≠a→s.heap.get? b=some o→h'.get? b=some o):Step ρ s ρ { s with heap:=h',toks:=t } :=
 ⟨List.prefix_refl _,fun b o e hb=>Uz (fun o e=>hk b o (by rintro rfl;exact hb ha) e) e,fun u_ h=>.inl h,rfl,rfl⟩
end
section
variable {K:Kx}{A:Around}{env:Env}{c:CEnv}{cl:Cl}{T:Tabs}
theorem Zlx {es:List Expr}(h:Xy es)(hl:es.length<20)(pos:Pos) :
  ((backTo pos (starEach es env)).all (fun x=>!x.1)&&(backToKw pos (keywordEach [] env)).all (fun x=>x.1.isSome)&&decide (es.length+([]:List Keyword).length+(if ([]:List Keyword).isEmpty then 0 else 1)<30))=true:=by
 rw[Yt h]
 show (_&&_&&decide _)=true
 rw[show backToKw pos (keywordEach [] env)=[] from rfl]
 simp
 exact ln1 [(.lt .v0 (.k 20))] (.lt .v0 (.k 30)) (.d 111) rfl hl
theorem Zot {n:Nat}{l:List V}(h:Yg σ (.obj n)=some l):σ[n]?=some (.list l):=by
 have h:(match σ[n]? with | some (.list l)=>some l | _=>Option.none)=some l:=h
 cases e:σ[n]? with
 | none=>rw[e] at h;exact nn h
 | some o=>
  rw[e] at h
  cases o with
  | list l'=>refine siE h ?_;rfl
  | _=>exact nn h
theorem W6 {v:V}{n:Nat}(h:X9 v=some n):v=.obj n:=by
 cases v with
 | obj m=>refine siE h ?_;rfl
 | _=>exact nn h
set_option tactic.hygienic true in
theorem Zal {n:Nat}{l:List V}(h:Yg σ (.obj n)=some l):σ[n]?=some (.list l):=by
 simp only[Yg] at h
 split at h
 ·rename_i hl;refine siE h ?_;exact hl
 ·exact nn h
set_option tactic.hygienic true in
theorem Zcw {x v:V}{vs:List V}(h:W3 .append x vs σ=some (v,σ')):∃n x0 l,x=.obj n∧vs=[x0]∧σ[n]?=some (.list l)∧l.length<Zl∧v=.none∧σ'=σ.set n (.list (l++[x0])):=by
 refine Zw (h) fun n hn h1=>?_
 refine Zw (h1) fun l hl h2=>?_
 refine Zw ((show (Zbh vs).bind _=_ from h2)) fun x0 hx h3=>?_
 rw[W6 hn] at hl
 split at h3
 ·rename_i hlt;refine pE h3 ?_;exact ⟨n,x0,l,W6 hn,Zau hx,Zal hl,hlt,rfl,rfl⟩
 ·exact nn h3
set_option tactic.hygienic true in
theorem Zja {x v:V}{vs:List V}(h:W3 .pop x vs σ=some (v,σ')):∃n l,x=.obj n∧vs=[]∧σ[n]?=some (.list l)∧l.getLast?=some v∧σ'=σ.set n (.list l.dropLast):=by
 refine Zw (h) fun n hn h1=>?_
 refine Zw (h1) fun l hl h2=>?_
 have h2:Zof σ n l vs=some (v,σ'):=h2
 rw[W6 hn] at hl
 unfold Zof at h2
 split at h2
 ·rename_i hv
  refine Jx (h2) fun y hy e=>?_
  refine piE e ?_
  exact ⟨n,l,W6 hn,hv,Zal hl,hy,rfl⟩
 ·exact nn h2
theorem Ze9 {x v:V}{vs:List V}(h:W3 .append x vs σ=some (v,σ')){cx:Value}{cvs:List Value}(hr:HR K ρ σ s.heap)(rx:RV K ρ s.heap x cx)(rvs:RVs K ρ s.heap vs cvs) :
  TR K A (call (.builtin "list.append") (cx :: cvs)) ρ s σ' fun ρ' cv s' => RV K ρ' s'.heap v cv := by
 refine byC fun hX=>?_;refine W1 (fun n x0 l hO3 hO4 hn hlen hO7 hO8=>?_) (Zcw h);obtain rfl:=hO3;obtain rfl:=hO4;obtain rfl:=hO7;obtain rfl:=hO8;refine hX ?_;clear hX
 refine byC fun hX=>?_;refine rEA (fun a hO1 ha=>?_) (rx.objI rfl);obtain rfl:=hO1;refine hX ?_;clear hX
 refine Ym (fun u0_ u1_ hO2 r0 rn=>?_) (rvs.consI);refine eqS hO2 ?_
 obtain rfl:=rn.nilI
 refine Ym (fun ws m e r u4_=>?_) (hr.obj _ _ _ hn ha)
 refine wpAny_list_append_plain (items:=ws.toArray) ⟨m,e⟩ (fun h' hp hs'=>?_) (by have:=Ug r (Nat.le_of_lt hlen);simpa using this)
 revert hp;refine rE fun m2 hp=>?_
 have hk:∀b o,b≠a→s.heap.get? b=some o→h'.get? b=some o:=fun b o hb e=>(hs'.2 b hb).trans e
 refine ⟨ρ,⟨hr.setList hn ha (vs':=ws++[_]) (m':=m2) ?_ hk (r.append (.cons r0 .nil)) (by simp;exact ln2 [(.lt .v0 .v1)] (.le (.a .v0 .k1) .v1) (.d 111) rfl hlen),Step.set (List.mem_of_getElem? ha) hk⟩,.none⟩
 rw[hp];simp
theorem Zkq {x v:V}{vs:List V}(h:W3 .pop x vs σ=some (v,σ')){cx:Value}{cvs:List Value}(hr:HR K ρ σ s.heap)(rx:RV K ρ s.heap x cx)(rvs:RVs K ρ s.heap vs cvs) :
  TR K A (call (.builtin "list.pop") (cx :: cvs)) ρ s σ' fun ρ' cv s' => RV K ρ' s'.heap v cv := by
 refine byC fun hX=>?_;refine Zoa (fun n l hO2 hO3 hn hlast hO6=>?_) (Zja h);obtain rfl:=hO2;obtain rfl:=hO3;obtain rfl:=hO6;refine hX ?_;clear hX
 refine byC fun hX=>?_;refine rEA (fun a hO1 ha=>?_) (rx.objI rfl);obtain rfl:=hO1;refine hX ?_;clear hX
 obtain rfl:=rvs.nilI
 refine Ym (fun ws m e r hll=>?_) (hr.obj _ _ _ hn ha)
 have hlen:=r.length
 have hne:l≠[]:=by rintro rfl;exact nn hlast
 have hpos:0<l.length:=List.length_pos_iff.mpr hne
 have hget:l[l.length-1]?=some v:=by rw[← List.getLast?_eq_getElem?];exact hlast
 refine rEA (fun cv hc rv=>?_) (r.get hget)
 refine call_meets F.slot_list_pop ⟨_,e,rfl⟩ F.entry_list_pop (F.args_list_pop_1 _) (MeetsSeq.list_pop_last a ws.toArray m cv (by simpa[← hlen] using hc) (by have:=Ug r hll;simpa using this)) ⟨e,?_⟩
 have hk:∀b o,b≠a→s.heap.get? b=some o→(s.heap.update a (Obj.mapSeq fun xs=>xs.eraseIdxIfInBounds (ws.toArray.size-1))).get? b=some o:=fun b o hb e=>by
  rw[Heap.get?_update_other _ _ (fun e'=>hb e'.symm)];exact e
 have hd:∃m2,(s.heap.update a (Obj.mapSeq fun xs=>xs.eraseIdxIfInBounds (ws.toArray.size-1))).get? a=some (Yd ws.dropLast m2):=by
  have hge:(Obj.mapSeq (fun xs=>xs.eraseIdxIfInBounds (ws.toArray.size-1)) (Yd ws m))=Yd ws.dropLast (m+1):=by
   have e1:ws.toArray.eraseIdxIfInBounds (ws.toArray.size-1)=ws.dropLast.toArray:=by
    have hlt:ws.length-1<ws.length:=by exact ln3 [(.eq .v2 .v1),(.lt .k0 .v2),(.sb .v0 .v1 .k1)] (.lt .v0 .v1) (.s (.d 1100001) (.d 1110101)) rfl hlen hpos (Zd _ _)
    simp[Array.eraseIdxIfInBounds,hlt,List.eraseIdx_length_sub_one]
   have hsz:(ws.dropLast.toArray.size == ws.toArray.size)=false:=by simp;exact ln3 [(.eq .v2 .v1),(.lt .k0 .v2),(.sb .v0 .v1 .k1)] (.no (.eq .v0 .v1)) (.s (.d 10100001) (.d 10110101)) rfl hlen hpos (Zd _ _)
   show ({ cls := .type "list", data := .seq (ws.toArray.eraseIdxIfInBounds (ws.toArray.size - 1)) (if ((ws.toArray.eraseIdxIfInBounds (ws.toArray.size - 1)).size == ws.toArray.size) = true then m else m + 1) } : Obj) = _
   simp only[e1,hsz];rfl
  refine ⟨m+1,?_⟩
  rw[Heap.get?_update_self _ e (by rw[hge];rfl),hge]
 revert hd;refine rE fun m2 hd=>?_
 have hnt:∀us,s.heap.get? a≠some (Zz us):=by intro us e';rw[e] at e';exact Ql e'
 have rd:RVs K ρ s.heap l.dropLast ws.dropLast:=by
  rw[List.dropLast_eq_take,List.dropLast_eq_take,hlen];exact r.take _
 exact ⟨ρ,⟨hr.setList hn ha hd hk rd (by simp;exact ln2 [(.le .v0 .v1)] (.le .v0 (.a .v1 .k1)) (.d 111) rfl hll),Step.set (List.mem_of_getElem? ha) hk⟩,rv.but hnt hk⟩
noncomputable def Za1:Mth→Str
 | .append=>Zog
 | .pop=>Zw8
theorem Zly {mm:Mth}{o:Expr}{m:Str}{p pos:Pos}{es:List Expr}{a:Ex}{as:Es}(hmm:(m == Za1 mm)=true)(hline:(p.endLine == pos.line)=true)(hb:∀name w,attributeBase o name env w=w)(hlen:es.length<20)
  (hc:Xy es) (ho:PE K A env c cl o a) (h:PEs K A env c cl es as):PE K A env c cl (.Call (.Attribute o m p) es [] pos) (.mth mm a as):=by
 refine eqS (eq_of_beq hmm) ?_
 intro ℓ σ v σ' he ρ s hr fo
 skip
 refine Yb (he) fun x σ1 h1 he=>?_
 refine Zw (he) fun l0 hl0 he=>?_
 refine Yb (he) fun vs σ2 h2 he=>?_
 have he:=Zax he
 refine wpAny_Call_method_lateS (hb _ _) (Zlx hc hlen pos) hline (wpAny_mono (ho ℓ σ x σ1 h1 ρ s hr fo) (fun cx s1 hq=>?_) fun u_ v_ f=>f)
 revert hq;refine rEA fun ρ1 g1 rx=>?_
 have hn:∃n,x=.obj n:=by
  cases mm with
  | append=>refine Ztw (fun n u1_ u2_ hO3 u4_=>?_) (Zcw he);refine eqS hO3 ?_;exact ⟨n,rfl⟩
  | pop=>refine Jz (fun n u1_ hO2 u3_=>?_) (Zja he);refine eqS hO2 ?_;exact ⟨n,rfl⟩
 refine byC fun hX=>?_;revert hn;refine rE fun n hO1=>?_;obtain rfl:=hO1;refine hX ?_;clear hX
 have hp:=h pos ℓ σ1 vs σ2 h2 ρ1 s1 g1.hr (fo.step hr g1.st)
 refine byC fun hX=>?_;refine rEA (fun ax hO1 ha=>?_) (rx.objI rfl);obtain rfl:=hO1;refine hX ?_;clear hX
 have hobj : ∃ ob, s1.heap.get? ax = some ob ∧ ob.cls = .type "list" ∧ ob.dict = none := by
  refine Jz (fun ws m e u3_=>?_) (g1.hr.obj n _ ax (Zal hl0) ha);exact ⟨_,e,rfl,rfl⟩
 revert hobj;refine J5 fun ob eob hcls hdict=>?_
 rw[Yt hc] at hp
 have fin : ∀ id : String, (∀ (s2 : Shared) (ρ2 : List Addr) (cvs : List Value), HR K ρ2 σ2 s2.heap → RV K ρ2 s2.heap (.obj n) (.ref ax) → RVs K ρ2 s2.heap vs cvs → TR K A (call (.builtin id) (.ref ax :: cvs)) ρ2 s2 σ' fun ρ' cv s' => RV K ρ' s'.heap v cv) →
   Slot "list" (Za1 mm) id → typeOf (.builtin id) = pure (.type "method_descriptor") → MethodOnS K.prog K.w A (fun u_ v_ => False) (Za1 mm) (.ref ax) pos (backTo pos (starEach es env)) (fun a s' => ∃ ρ', Good K ρ s ρ' σ' s' ∧ RV K ρ' s'.heap v a) s1 := by
  intro id hid hslot htype
  refine ⟨"list", id, F.plainAttrs_list, hslot, htype, ⟨ob, eob, hcls⟩, fun a' e => by cases e; exact ⟨ob, eob, hdict⟩, ?_⟩
  rw[Yt hc]
  refine Jq rfl (wpAny_mono hp (fun cvs s2 hq=>?_) fun u_ v_ f=>f)
  revert hq;refine rEA fun ρ2 g2 rvs=>?_
  exact TR.after (g1.trans g2) (hid s2 ρ2 cvs g2.hr (.obj (Wb g2.st.pre ha)) rvs)
 cases mm with
 | append => exact fin "list.append" (fun s2 ρ2 cvs q1 q2 q3 => Ze9 he q1 q2 q3) F.slot_list_append F.type_list_append
 | pop => exact fin "list.pop" (fun s2 ρ2 cvs q1 q2 q3 => Zkq he q1 q2 q3) F.slot_list_pop F.type_list_pop
end
structure WK (K:Kx)(T:Tabs)(pg:Pg):Prop where
 cls : ∀ c C, K.clv c = .ref C → ∃ N mN, ClsAt K.h0 C N mN ∧ mN "__getattribute__" = none ∧ mN "__getattr__" = none ∧ mN "__setattr__" = none ∧ (∀ k, k < 2 → mN (atn k) = none) ∧
  (∀ x m f, T.meths.lookup x = some m → pg.mt c m = some f → x ∉ [atn 0, atn 1] ∧ mN x = some (.ref (K.fna f)) ∧ (∃ o fd, K.h0.get? (K.fna f) = some o ∧ o.cls = .type "function" ∧ o.data = .func fd) ∧ ∃ y, typeLookup (.type "object") x = pure y) ∧
  ∀ f, pg.init c = some f → mN "__init__" = some (.ref (K.fna f)) ∧ ∃ o, K.h0.get? (K.fna f) = some o ∧ o.cls = .type "function"
 tyb:∀t i,K.tyv t≠.builtin i
 attr:∀x k,T.attrs.lookup x=some k→k<2∧x=atn k
theorem Zlz (k : Nat) : typeLookup (.type "object") (atn k) = pure none := by
 by_cases h:k=0
 ·subst h; show typeLookup (.type "object") "top" = _; rw [typeLookup_type, builtinLookup_eq_fast]; kernel_rfl
 ·have : atn k = "many" := if_neg h
  rw[this,typeLookup_type,builtinLookup_eq_fast];kernel_rfl
set_option tactic.hygienic true in
theorem Zgr {x:V}{p:Nat×List (Nat×V)}(h:Zds σ x=some p):∃n c,x=.obj n∧σ[n]?=some (.inst c p.1)∧σ[p.1]?=some (.ns p.2):=by
 unfold Zds at h
 split at h
 ·split at h
  ·rename_i c d h1
   split at h
   ·rename_i l h2;refine siE h ?_;exact ⟨_,c,rfl,h1,h2⟩
   ·exact nn h
  ·exact nn h
 ·exact nn h
set_option tactic.hygienic true in
theorem Zh2 {pg:Pg}{x:V}{m f:Nat}(h:Xq pg σ x m=some f):∃n c d l,x=.obj n∧σ[n]?=some (.inst c d)∧σ[d]?=some (.ns l)∧pg.mt c m=some f:=by
 unfold Xq at h
 split at h
 ·split at h
  ·rename_i c d h1
   split at h
   ·rename_i l h2;exact ⟨_,c,d,l,rfl,h1,h2,h⟩
   ·exact nn h
  ·exact nn h
 ·exact nn h
section
variable {K:Kx}{A:Around}{env:Env}{c:CEnv}{cl:Cl}{T:Tabs}
theorem HR.inst (x:HR K ρ σ h){n cn d:Nat}{l:List (Nat×V)}{a:Addr}(h1:σ[n]?=some (.inst cn d))(h2:σ[d]?=some (.ns l))(ha:ρ[n]?=some a) :
  ∃C ad m o,K.clv cn=.ref C∧h.Inst a C m∧ρ[d]?=some ad∧h.get? a=some o∧o.dict=some ad∧ad≠a∧h.Ns1 ad m∧(∀x,m x≠.none→x∈[atn 0,atn 1])∧∀k v,l.lookup k=some v→k<2∧∃cv,m (atn k)=some cv∧RV K ρ h v cv:=by
 refine W1 (fun o C ad e1 e2 e3 e4 e5 e6=>?_) (x.obj n _ a h1 ha)
 refine J5 (fun m f1 f2 f3=>?_) (x.obj d _ ad h2 e6)
 have hne:ad≠a:=by
  rintro rfl
  have:=(List.getElem?_inj (List.getElem?_eq_some_iff.mp e6).1 x.nd).mp (e6.trans ha.symm)
  subst this;rw[h1] at h2;cases h2
 exact ⟨C,ad,m,o,e2,⟨o,e1,e3,e4,.inr ⟨ad,e5,hne,f1⟩⟩,e6,e1,e5,hne,f1,f2,f3⟩
theorem Zsd {v:V}{cv:Value}(tb:∀t i,K.tyv t≠.builtin i)(r:RV K ρ h v cv):handedOut cv=pure cv:=by
 cases r with
 | ty t=>
  cases e:K.tyv t with
  | builtin i=>exact absurd e (tb t i)
  | _=>rfl
 | _=>rfl
theorem Zou (W:WK K T cl.pg){z x:Str}{zp pos:Pos}{a:Ex}{k:Nat}(hk:T.attrs.lookup x=some k)(h:PE K A env c cl (.Name z zp) a):PE K A env c cl (.Attribute (.Name z zp) x pos) (.attr a k):=by
 intro ℓ σ v σ' he ρ s hr fo
 refine Yb (he) fun y σ1 h1 he=>?_
 refine rA (fun hv hO1=>?_) (Xv he);refine eqS hO1 ?_
 refine Zw (hv) fun p hp hl=>?_
 refine byC fun hX=>?_;refine Ym (fun n cn hO2 i1 i2=>?_) (Zgr hp);obtain rfl:=hO2;refine hX ?_;clear hX
 refine byC fun hX=>?_;refine rA (fun hk2 hO1=>?_) (W.attr x k hk);obtain rfl:=hO1;refine hX ?_;clear hX
 have hb:=h ℓ σ _ _ h1 ρ s hr fo
 refine Attribute_Name_ (wpAny_mono hb (fun co s1 hq=>?_) fun u_ v_ f=>f)
 revert hq;refine rEA fun ρ1 g1 rx=>?_
 refine byC fun hX=>?_;refine rEA (fun u0_ hO1 ha=>?_) (rx.objI rfl);obtain rfl:=hO1;refine hX ?_;clear hX
 refine Jg (fun C ad m o e1 e2 e3 e4 e5 e6 e7 e8 e9=>?_) (g1.hr.inst i1 i2 ha)
 refine Zfz (fun u0_ cv q1 q2=>?_) (e9 k v hl)
 refine Zf0 (fun N mN w1 w2 w3 w4 w5 u7_=>?_) (W.cls cn C e1)
 refine Uw (fun nm q bs sn sub col dd k0 k1 k2' k3 k5 hC=>?_) ((w1.keeps g1.hr.keep).obj)
 exact load_attr hC (w1.keeps g1.hr.keep).ns w2 (w5 k hk2) (Zlz k) e2 q1 (Zsd W.tyb q2) ⟨ρ1,g1.tok _,q2⟩
theorem Zcx {es:List Expr}{as:Es}{pos:Pos}{vs:List V}(hc:Xy es)(h:PEs K A env c cl es as)(h1:Yy cl as ℓ σ=some (.ok vs,σ1))(hr:HR K ρ σ s.heap)(fo:FO K A env c ℓ ρ s.heap)
  {Q:List Value→Shared→Prop}{E:Value→Shared→Prop} (hq:∀ρ1 cvs s1,Good K ρ s ρ1 σ1 s1→RVs K ρ1 s1.heap vs cvs→Q cvs s1):wpAny K.M A (spliced (es.map fun e=>(false,eval e env))) Q E s:=by
 have hp:=h pos ℓ σ vs σ1 h1 ρ s hr fo
 rw[Yt hc] at hp
 exact wpAny_mono hp (fun cvs s1 q=>let ⟨ρ1,g1,r⟩:=q;hq ρ1 cvs s1 g1 r) fun u_ v_ f=>f.elim
theorem Zkr (W:WK K T cl.pg){o:Expr}{x:Str}{p pos:Pos}{es:List Expr}{a:Ex}{as:Es}{m f:Nat}{σ2:H}{y:V}{vs:List V}(hm:T.meths.lookup x=some m)(hline:(p.endLine == pos.line)=true)(hob:∀name w,attributeBase o name env w=w)(hlen:es.length<20)
  (hc:Xy es) (ho:PE K A env c cl o a) (h:PEs K A env c cl es as) (h1:Zg cl a ℓ σ=some (.ok y,σ1)) (hf:Xq cl.pg σ1 y m=some f) (h2:Yy cl as ℓ σ1=some (.ok vs,σ2)) (hr:HR K ρ σ s.heap) (fo:FO K A env c ℓ ρ s.heap)
  {Q:Value→Shared→Prop}{E:Value→Shared→Prop} (hq:∀ρ2 cy cvs s2,Good K ρ s ρ2 σ2 s2→RVs K ρ2 s2.heap (y::vs) (cy::cvs)→wpAny K.M A (call (.ref (K.fna f)) (cy::cvs)) Q E s2):wpAny K.M A (eval (.Call (.Attribute o x p) es [] pos) env) Q E s:=by
 refine byC fun hX=>?_;refine Zlh (fun n cn d l hO4 i1 i2 hmt=>?_) (Zh2 hf);obtain rfl:=hO4;refine hX ?_;clear hX
 rw[arm_eval_Call,hob]
 refine wpAny_bind (wpAny_mono (ho ℓ σ _ σ1 h1 ρ s hr fo) (fun co s1 hq'=>?_) fun u_ v_ f=>f.elim)
 revert hq';refine rEA fun ρ1 g1 rx=>?_
 refine wpAny_bind (wpAny_standAt ?_)
 refine byC fun hX=>?_;refine rEA (fun ax hO1 ha=>?_) (rx.objI rfl);obtain rfl:=hO1;refine hX ?_;clear hX
 refine Jg (fun C ad mA ob e1 e2 e3 e4 e5 e6 e7 e8 e9=>?_) (g1.hr.inst i1 i2 ha)
 refine Zbf (fun N mN w1 w2 w3 w4 w5 w6 u8_=>?_) (W.cls cn C e1)
 refine Ztu (fun hnx hmx hO2 yy hB=>?_) (w6 x m f hm hmt);revert hO2;refine Ym fun of fd hfo hfc hfd=>?_
 refine Uw (fun nm q bs sn sub col dd k0 k1 k2' k3 k5 hC=>?_) ((w1.keeps g1.hr.keep).obj)
 have hsh:mA x=none:=Classical.byContradiction fun hx=>hnx (e8 x hx)
 have hform:methodCallForm (es.length+([]:List Keyword).length) (backTo pos (starEach es env)) (backToKw pos (keywordEach [] env))=true:=Zlx hc hlen pos
 have hpos:methodCallPos true o env p pos=pure pos:=by unfold methodCallPos;simp[hline]
 unfold methodCall
 rw[hform]
 refine wpAny_bind (wpAny_holding (method_of hC (w1.keeps g1.hr.keep).ns w2 w3 hmx (g1.hr.keep _ _ hfo) hfc hB e2 hsh ?_))
 refine wpAny_bind (wpAny_of_eq hpos ?_)
 show wpAny K.M A (callWith pos (.ref (K.fna f)) [.ref ax] (backTo pos (starEach es env)) []) Q E s1
 rw[Yt hc]
 refine Calls.callWith_function (o:=of) (fd:=fd) (Uy (Zcx (pos:=pos) hc h h2 g1.hr (fo.step hr g1.st) fun ρ2 cvs s2 g2 r=>⟨⟨g2.hr.keep _ _ hfo,hfd⟩,?_⟩))
 exact hq ρ2 (.ref ax) cvs s2 (g1.trans g2) (.cons (.obj (Wb g2.st.pre ha)) r)
theorem Zse (G : GK K T) (W : WK K T cl.pg) {f : Str} {p pos : Pos} {n : Nat} (hg : Y5 c f = true) (hn : T.cls.lookup f = some n) (hcall : ∀ C vs, Ze8 K (A.under (.builtin "type.__call__" ⟨.ref C :: vs, []⟩)) cl) :
  PE K A env c cl (.Call (.Name f p) [] [] pos) (.new n .nil):=by
 intro ℓ σ v σ' he ρ s hr fo
 refine Zw (he) fun fi hfi he=>?_
 refine Yb (he) fun r σ2 h1 he=>?_
 have hrn:r=.none:=by
  cases r with
  | none=>rfl
  | _=>cases he
 subst hrn
 cases he
 refine rEA (fun C hm hC'=>?_) (G.cl f n hn)
 refine Zbf (fun N mN w1 w2 w3 w4 w5 u7_ w7=>?_) (W.cls n C hC')
 refine Zfz (fun hi oI hfI hfc=>?_) (w7 fi hfi)
 show TR K A (eval (.Name f p) env >>= fun fv=>callWith pos fv [] (backTo pos (starEach [] env)) []) ρ s σ' _
 refine wpAny_bind (J8 hr fo hg hm ?_)
 refine callWith_cls0 w1 hr.keep ?_
 refine Uw (fun nm q bs sn sub col dd k0 k1 k2' k3 k5 hC=>?_) ((w1.keeps hr.keep).obj)
 refine byC fun hX=>?_;obtain ⟨hh,gg,dr,t,os⟩:=s;refine hX ?_;clear hX
 refine wpAny_call_obj_init PySem.F.objNew hC (w1.keeps hr.keep).ns hi (hr.keep _ _ hfI) hfc fun h' x dx hm'=>?_
 refine Q4 (fun oX x1 x2 x3 x4=>?_) hm'.inst
 have hdx:=hm'.dict oX x1
 obtain ⟨d',y1,y2,y3⟩ : ∃d',oX.dict=some d'∧d'≠x∧h'.Ns1 d' fun u_=>none:=by
  rcases x4 with ⟨h0,_⟩ | h0
  ·rw[h0] at hdx;exact nn hdx
  ·exact h0
 rw[hdx] at y1;obtain rfl:=Option.some.inj y1
 have hxρ:x ∉ ρ:=fun hm=>by refine rEA (fun ob e u2_=>?_) (hr.at_ hm);rw[hm'.newX] at e;exact nn e
 have hdρ:dx ∉ ρ:=fun hm=>by refine rEA (fun ob e u2_=>?_) (hr.at_ hm);rw[hm'.newD] at e;exact nn e
 have hl:=hr.len
 have g:Good K ρ ⟨hh,gg,dr,t,os⟩ (ρ++[dx]++[x]) (σ++[.ns []]++[.inst n σ.length]) ⟨h',gg,dr,t,os⟩:=by
  refine ⟨⟨fun b o e=>hm'.keeps b o (hr.keep b o e),by simp[hl],?_,fun b hb=>?_,fun k o b e1 e2=>?_⟩,⟨by rw[List.append_assoc];exact List.prefix_append _ _,fun b o e u_=>Ws hm'.keeps e,fun b hb=>?_,rfl,rfl⟩⟩
  ·rw[List.append_assoc,List.nodup_append]
   refine ⟨hr.nd,by simpa using y2,fun b hb c hc e=>?_⟩
   subst e
   simp at hc
   rcases hc with rfl | rfl
   ·exact hdρ hb
   ·exact hxρ hb
  ·have : ∀ z, hh.get? z = none → K.h0.get? z = none := fun z hz => by
    cases e:K.h0.get? z with
    | none=>rfl
    | some o=>rw[show hh.get? z=some o from hr.keep z o e] at hz;exact ns hz
   simp at hb
   rcases hb with hb | rfl | rfl
   ·exact hr.new b hb
   ·exact this _ hm'.newD
   ·exact this _ hm'.newX
  ·by_cases hk:k<σ.length
   ·rw[List.append_assoc,List.getElem?_append_left hk] at e1
    rw[List.append_assoc,List.getElem?_append_left (by rw[hl];exact hk)] at e2
    exact (hr.obj k o b e1 e2).mono (by rw[List.append_assoc];exact List.prefix_append _ _) hm'.keeps
   ·rw[List.append_assoc,List.getElem?_append_right (by exact ln2 [(.no (.lt .v1 .v0))] (.le .v0 .v1) (.d 111) rfl hk)] at e1
    rw[List.append_assoc,List.getElem?_append_right (by exact ln3 [(.eq .v0 .v2),(.no (.lt .v1 .v2))] (.le .v0 .v1) (.d 11101) rfl hl hk)] at e2
    have:k=σ.length∨k=σ.length+1:=by
     have:=(List.getElem?_eq_some_iff.mp e1).1
     simp at this;lia
    rcases this with rfl | rfl
    ·simp[hl] at e1 e2
     subst e1 e2
     exact ⟨_,y3,fun z hz=>absurd rfl hz,fun k v hv=>by exact nn hv⟩
    ·rw[hl] at e2
     have e3:σ.length+1-σ.length=1:=by exact ln2 [(.sb .v0 (.a .v1 .k1) .v1)] (.eq .v0 .k1) (.s (.s (.d 11001) (.d 101)) (.s (.d 1101) (.d 101))) rfl (Zd _ _)
     rw[e3] at e1 e2
     simp at e1 e2
     subst e1 e2
     refine ⟨oX,C,dx,x1,hC',x2,x3,hdx,?_⟩
     rw[List.append_assoc,List.getElem?_append_right (by exact ln2 [(.eq .v0 .v1)] (.le .v0 .v1) (.d 111) rfl hl),hl];simp
  ·simp at hb
   rcases hb with hb | rfl | rfl
   ·exact .inl hb
   ·exact .inr hm'.newD
   ·exact .inr hm'.newX
 have hxr:(ρ++[dx]++[x])[σ.length+1]?=some x:=by
  rw[List.getElem?_append_right (by simp[hl])];simp[hl]
 have hff : FF K (A.under (.builtin "type.__call__" ⟨[.ref C], []⟩)) (ρ ++ [dx] ++ [x]) h' := fo.ff.step g.st
 refine wpAny_mono (hcall C [] fi _ _ .none σ' h1 (ρ++[dx]++[x]) ⟨h',gg,dr,t,os⟩ [.ref x] g.hr (.cons (.obj hxr) .nil) hff) (fun r s2 hq=>?_) fun u_ v_ f=>f
 revert hq;refine rEA fun ρ2 g2 rv=>?_
 obtain rfl:=rv.noneI rfl
 exact ⟨rfl,ρ2,g.trans g2,.obj (Wb g2.st.pre hxr)⟩
end
end Mini.Internal
namespace Mini.Internal
open PySem PyProof.Rows PySem.SeqAt PySem.W
variable {ρ ρ' ρ1:List Addr}{σ σ' σ1:H}{s s' s1:Shared}{h h':Heap}{ℓ ℓ':L}
noncomputable def Fly (K:Kx)(X ρ:List Addr)(s:Shared)(ρ':List Addr)(σ':H)(outer:List Env)(cv:Value)(P:Heap→Prop)(ev:Value)(h:Heap):Prop :=
 ∃G B t e,ev=.ref e∧P G∧HR K ρ' σ' G∧StepX X ρ s ρ' { s with heap:=G }∧(∀b o,G.get? b=some o→¬ dy o→B.get? b=some o)∧(∀b o,K.h0.get? b=some o→B.get? b=some o)∧G.UpToSlots h∧Heap.FlyingW B outer e cv (.ref t) h
section
variable {K:Kx}{A:Around}
theorem FF.mem {l:List Env}(x:FF K A ρ h)(hf:A.frames=some l){b:Addr}(hb:b∈l.filterMap (·.frame)):∃o,h.get? b=some o∧dy o∧K.h0.get? b=none:=by
 refine rEA (fun env he hfr=>?_) (List.mem_filterMap.mp hb)
 refine Qf (fun u0_ L o h2 u4_ h4 h5 h6=>?_) (x l hf env he)
 rw[hfr] at h2;obtain rfl:=Option.some.inj h2
 exact ⟨o,h5,h6,h4⟩
theorem Zl0 :∀{l:List Env},(∀env∈l,env.scope.kind≠.module∧∃L o,env.frame=some L∧L ∉ ρ∧K.h0.get? L=none∧h.get? L=some o∧dy o)→h.FunFrames K.h0 l
 | [],_=>trivial
 | env::l,x=>by
  refine Zcj (fun h1 L o h2 h3 h4 h5 es ep h6=>?_) (x env List.mem_cons_self)
  exact ⟨h1,⟨L,o,h2,h4,h5,fun vs hv=>by rw[h6] at hv;cases hv⟩,Zl0 fun e he=>x e (List.mem_cons_of_mem _ he)⟩
theorem Zks {X:List Addr}{G:Heap}{env:Env}{outer:List Env}{e:Addr}{cv:Value}{args:List Value}{P:Heap→Prop}{E:Value→Shared→Prop}{Q:Unit→Shared→Prop}(hfr:A.frames=some (env::outer))(ff:FF K A ρ' G)
  (hr:HR K ρ' σ' G) (hP:P G) (st:StepX X ρ s ρ' { s with heap:=G }) (hx:Heap.MadeExcOf G s1.heap e cv args) (hQ:∀h',Fly K X ρ s ρ' σ' outer cv P (.ref e) h'→Q () { s1 with heap:=h' }):wpAny K.M A (leaving env (.ref e)) Q E s1:=by
 refine Ziv (fun u0_ L u2_ hf u4_=>?_) (ff _ hfr env List.mem_cons_self)
 have hin:∀v∈(env::outer),∀b,v.frame=some b→b∈(env::outer).filterMap (·.frame):=fun v hv b hb=>List.mem_filterMap.mpr ⟨v,hv,hb⟩
 refine wpAny_leaves_madeW (base:=hideAll G ((env::outer).filterMap (·.frame))) hfr hf (fun b o q=>of_hideAll _ q) (funFrames_hide (Zl0 (ff _ hfr)) hin) hx fun h' t f1 f2 f3 f4=>?_
 refine hQ h' ⟨G,_,t,e,rfl,hP,hr,st,fun b o q hc=>hideAll_get _ q fun hm=>?_,fun b o q=>hideAll_get _ (hr.keep b o q) fun hm=>?_,(Heap.UpToSlots.of_keeps hx.keeps).trans f4,f1⟩
 ·refine J5 (fun o' q' hc' u3_=>?_) (ff.mem hfr hm)
  rw[q] at q';obtain rfl:=Option.some.inj q';exact hc hc'
 ·refine J5 (fun o' u1_ u2_ q'=>?_) (ff.mem hfr hm)
  rw[q] at q';exact ns q'
theorem Zl1 {X:List Addr}{env:Env}{outer:List Env}{ev:Value}{L:Addr}{cv:Value}{P:Heap→Prop}{E:Value→Shared→Prop}{Q:Unit→Shared→Prop}(hfr:A.frames=some (env::outer))(hf:env.frame=some L)
  (fl:Fly K X ρ s ρ' σ' (env::outer) cv P ev s1.heap) (hQ:∀h',Fly K X ρ s ρ' σ' outer cv P ev h'→Q () { s1 with heap:=h' }):wpAny K.M A (leaving env ev) Q E s1:=by
 refine byC fun hX=>?_;revert fl;refine Xn fun G B t e hO4 hP hr st hB hB0 hu fw=>?_;obtain rfl:=hO4;refine hX ?_;clear hX
 exact wpAny_leaves_onW hfr hf fw fun h' f1 f2=>hQ h' ⟨G,B,t,e,rfl,hP,hr,st,hB,hB0,hu.trans f2,f1⟩
theorem Fly.map {X Y:List Addr}{outer:List Env}{ev cv:Value}{P P':Heap→Prop}(fl:Fly K X ρ1 s1 ρ' σ' outer cv P ev h)(hs:∀G,HR K ρ' σ' G→P G→StepX X ρ1 s1 ρ' { s1 with heap:=G }→StepX Y ρ s ρ' { s with heap:=G }∧P' G):Fly K Y ρ s ρ' σ' outer cv P' ev h:=by
 revert fl;refine Zd1 fun G B t e he hP hr st r=>?_
 refine rA (fun h1 h2=>?_) (hs G hr hP st)
 exact ⟨G,B,t,e,he,h2,hr,h1,r⟩
theorem HR.move (x:HR K ρ σ h)(h0:∀b o,K.h0.get? b=some o→h'.get? b=some o)(hk:∀b o,ng h b=some o→ng h' b=some o):HR K ρ σ h' :=
 ⟨h0,x.len,x.nd,x.new,fun n o a h1 h2=>(x.obj n o a h1 h2).move (List.prefix_refl _) (fun b vs e=>Zi3 nfT (hk b _ (J7 e))) fun o e=>hk a o e⟩
theorem Zsf {G B:Heap}(hB:∀b o,G.get? b=some o→¬ dy o→B.get? b=some o)(hu:G.UpToSlots h)(fw:B.StaysIn h):∀b o,ng G b=some o→ng h b=some o:=fun b o q=>by
 refine rEA (fun o' q' hO2=>?_) (Zaw q);refine eqE hO2 ?_
 by_cases hc:dy o'
 ·refine rEE (fun es ep hd=>?_) (id hc)
  refine rE (fun sl e=>?_) (hu b o' q' fun vs hv=>by rw[hd] at hv;cases hv)
  rw[J7 e]
  have hc2:dy { o' with slots:=sl }:=⟨es,ep,hd⟩
  unfold nrm
  rw[if_pos hc,if_pos hc2]
 ·exact J7 (fw b _ (hB b o' q' hc))
theorem Fly.good {X:List Addr}{outer:List Env}{ev cv:Value}{env:Env}{c:CEnv}(fl:Fly K X ρ s ρ' σ' outer cv (FO K A env c ℓ ρ') ev s1.heap)(hg:s1.gens=s.gens)(ho:s1.os=s.os) :
  HR K ρ' σ' s1.heap∧StepX X ρ s ρ' s1∧FO K A env c ℓ ρ' s1.heap:=by
 revert fl;refine Xn fun G B t e he hP hr st hB hB0 hu fw=>?_
 have hn:=Zsf hB hu fw.1
 have hst:Step ρ' { s with heap:=G } ρ' s1:=⟨List.prefix_refl _,fun b o q u_=>hn b o q,fun u_ h=>.inl h,hg,ho⟩
 exact ⟨hr.move (fun b o q=>fw.1 b o (hB0 b o q)) hn,⟨st.pre,fun b o q hb hx=>hn b o (st.fr b o q hb hx),st.fresh,hg,ho⟩,hP.step (s:={ s with heap:=G }) hr hst⟩
end
section
variable {σ1:H}
theorem Zfa {α:Type}{x:X α}{r:R α}(h:noX x=some (r,σ1)):∃a,r=.ok a∧x=some (.ok a,σ1):=by
 refine Yb (h) fun a σ2 h1 h2=>?_
 refine pE h2 ?_;exact ⟨a,rfl,h1⟩
theorem Zfb {α β:Type}{x:X α}{f:α→H→X β}{r:R β}(h:bnd x f=some (r,σ')):(∃a σ1,x=some (.ok a,σ1)∧f a σ1=some (r,σ'))∨∃k,x=some (.exc k,σ')∧r=.exc k:=by
 cases x with
 | none=>exact nn h
 | some p=>
  refine byC fun hX=>?_;obtain ⟨q,τ⟩:=p;refine hX ?_;clear hX
  cases q with
  | ok a=>exact .inl ⟨a,τ,rfl,h⟩
  | exc k=>refine pE h ?_;exact .inr ⟨k,rfl,rfl⟩
end
noncomputable def Flies (K:Kx)(A:Around)(ρ:List Addr)(s:Shared)(σ':H)(k:Nat)(ev:Value)(s':Shared):Prop :=
 s'.gens=s.gens∧s'.os=s.os∧∃ρ',∀fs,A.frames=some fs→Fly K [] ρ s ρ' σ' fs (K.tyv k) (fun u_=>True) ev s'.heap
theorem Flies.after {K:Kx}{A:Around}{k:Nat}{ev:Value}(g:Good K ρ s ρ1 σ1 s1)(f:Flies K A ρ1 s1 σ' k ev s'):Flies K A ρ s σ' k ev s':=by
 revert f;refine Zlf fun h1 h2 ρ' h3=>?_
 refine ⟨h1.trans g.st.gens,h2.trans g.st.os,ρ',fun fs hf=>(h3 fs hf).map fun G u_ v_ st=>⟨?_,trivial⟩⟩
 have:=g.st.trans st.nil
 exact ⟨this.pre,fun b o e hb u_=>this.fr b o e hb,this.fresh,rfl,rfl⟩
abbrev XQ (K:Kx)(ρ:List Addr)(s:Shared)(r:R V)(σ':H)(cv:Value)(s':Shared):Prop:=∃v ρ',r=.ok v∧Good K ρ s ρ' σ' s'∧RV K ρ' s'.heap v cv
abbrev XE {α:Type}(K:Kx)(A:Around)(ρ:List Addr)(s:Shared)(r:R α)(σ':H)(ev:Value)(s':Shared):Prop:=∃k,r=.exc k∧Flies K A ρ s σ' k ev s'
noncomputable def CallB (K:Kx)(A:Around)(cl:Cl):Prop :=
 ∀f vs σ r σ',cl.call f vs σ=some (r,σ')→∀ρ s cvs,HR K ρ σ s.heap→RVs K ρ s.heap vs cvs→FF K A ρ s.heap→wpAny K.M A (call (.ref (K.fna f)) cvs) (XQ K ρ s r σ') (XE K A ρ s r σ') s
noncomputable def PX (K:Kx)(A:Around)(env:Env)(c:CEnv)(e:Expr)(f:L→H→X V):Prop :=
 ∀ℓ σ r σ',f ℓ σ=some (r,σ')→∀ρ s,HR K ρ σ s.heap→FO K A env c ℓ ρ s.heap→wpAny K.M A (eval e env) (XQ K ρ s r σ') (XE K A ρ s r σ') s
noncomputable def PA (K:Kx)(A:Around)(env:Env)(c:CEnv)(cl:Cl)(es:List Expr)(as:Es):Prop :=
 ∀ℓ σ r σ',Wj cl as ℓ σ=some (r,σ')→∀ρ s,HR K ρ σ s.heap→FO K A env c ℓ ρ s.heap→
  wpAny K.M A (spliced (es.map fun e=>(false,eval e env))) (fun cvs s'=>∃vs ρ',r=.ok vs∧Good K ρ s ρ' σ' s'∧RVs K ρ' s'.heap vs cvs) (XE K A ρ s r σ') s
section
variable {K:Kx}{A:Around}{env:Env}{c:CEnv}{cl:Cl}{T:Tabs}
theorem Zb1 {e:Expr}{a:Ex}(h:PE K A env c cl e a):PX K A env c e fun ℓ σ=>noX (Zg cl a ℓ σ):=by
 intro ℓ σ r σ' he ρ s hr fo
 refine rEA (fun v e1 h1=>?_) (Zfa he)
 exact wpAny_mono (h ℓ σ v σ' h1 ρ s hr fo) (fun cv s1 ⟨ρ1,g1,rv⟩=>⟨v,ρ1,e1,g1,rv⟩) fun u_ v_ f=>f.elim
theorem Zgs {e:Expr}{a:Ex}(h:PX K A env c e (Zg cl a)):PE K A env c cl e a:=fun ℓ σ v σ' he ρ s hr fo=>
 wpAny_mono (h ℓ σ _ σ' he ρ s hr fo) (fun cv s' ⟨_,ρ',e,g,r⟩=>⟨ρ',g,oi e▸r⟩) fun _ _ ⟨_,e,_⟩=>oe e
theorem CallB.ok (h:CallB K A cl):Ze8 K A cl:=fun f vs σ v σ' he ρ s cvs hr rvs ff=>
 wpAny_mono (h f vs σ _ σ' he ρ s cvs hr rvs ff) (fun cv s' ⟨_,ρ',e,g,r⟩=>⟨ρ',g,oi e▸r⟩) fun _ _ ⟨_,e,_⟩=>oe e
theorem XQ.after {s2:Shared}{r:R V}{cv:Value}(g:Good K ρ s ρ1 σ1 s1)(h:XQ K ρ1 s1 r σ' cv s2):XQ K ρ s r σ' cv s2:=Ym (fun v ρ2 e g2 rv=>⟨v,ρ2,e,g.trans g2,rv⟩) h
theorem XE.after {α:Type}{s2:Shared}{r:R α}{ev:Value}(g:Good K ρ s ρ1 σ1 s1)(h:XE K A ρ1 s1 r σ' ev s2):XE K A ρ s r σ' ev s2:=rEA (fun k e fl=>⟨k,e,fl.after g⟩) h
theorem XE.to {α β:Type}{k:Nat}{ev:Value}(h:XE K A ρ s (R.exc k:R α) σ' ev s'):XE K A ρ s (R.exc k:R β) σ' ev s':=rEA (fun k' e fl=>⟨k',congrArg R.exc (ei e),fl⟩) h
theorem XQ.o {v:V}{cv:Value}{P:Prop}(h:XQ K ρ s (.ok v) σ' cv s')(k:∀ρ',Good K ρ s ρ' σ' s'→RV K ρ' s'.heap v cv→P):P:=by
 revert h;refine Ym fun w ρ' e g r=>?_;exact k ρ' g (oi e▸r)
theorem XQ.x {j:Nat}{cv:Value}{P:Prop}(h:XQ K ρ s (.exc j) σ' cv s'):P:=by
 revert h;refine Jz fun w ρ' e u_=>?_;exact eo e
theorem XE.o {α:Type}{v:α}{ev:Value}{P:Prop}(h:XE K A ρ s (R.ok v) σ' ev s'):P:=by
 revert h;refine rEA fun k e u_=>?_;exact oe e
theorem XE.x {α:Type}{j:Nat}{ev:Value}(h:XE K A ρ s (R.exc j:R α) σ' ev s'):Flies K A ρ s σ' j ev s':=by
 revert h;refine rEA fun k e fl=>?_;exact ei e▸fl
theorem CallB.run (h:CallB K A cl){f:Nat}{vs:List V}{r:R V}{cvs:List Value}(he:cl.call f vs σ1=some (r,σ'))(fo:FO K A env c ℓ ρ s.heap)(g:Good K ρ s ρ1 σ1 s1)(rvs:RVs K ρ1 s1.heap vs cvs) :
  wpAny K.M A (call (.ref (K.fna f)) cvs) (XQ K ρ s r σ') (XE K A ρ s r σ') s1:=wpAny_mono (h f vs σ1 r σ' he ρ1 s1 cvs g.hr rvs (fo.ff.step g.st)) (fun u_ v_ q=>q.after g) fun u_ v_ q=>q.after g
theorem Zgt (G:GK K T){f:Str}{p pos:Pos}{es:List Expr}{n:Nat}(hg:Y5 c f=true)(hn:T.fns.lookup f=some n)(hc:Xy es)(hr:HR K ρ σ s.heap)(fo:FO K A env c ℓ ρ s.heap)
  {Q:Value→Shared→Prop}{E:Value→Shared→Prop} (h:wpAny K.M A (spliced (es.map fun e=>(false,eval e env))) (fun cvs s1=>(∀b o,K.h0.get? b=some o→s1.heap.get? b=some o)∧wpAny K.M A (call (.ref (K.fna n)) cvs) Q E s1) E s) :
  wpAny K.M A (eval (.Call (.Name f p) es [] pos) env) Q E s:=by
 refine Ziv (fun hm o fd ho hd=>?_) (G.fn f n hn)
 show wpAny K.M A (eval (.Name f p) env >>= fun fv=>callWith pos fv [] (backTo pos (starEach es env)) []) Q E s
 refine wpAny_bind (J8 hr fo hg hm ?_)
 rw[Yt hc]
 exact Calls.callWith_function (o:=o) (fd:=fd) (Uy (wpAny_mono h (fun cvs s1 h1=>⟨⟨h1.1 _ _ ho,hd⟩,h1.2⟩) fun u_ v_ f=>f))
theorem Zsg:PA K A env c cl [] .nil:=by
 intro ℓ σ r σ' he ρ s hr fo
 refine pE he ?_
 exact wpAny_items_nil (pos:=⟨0,0,0,0⟩) (env:=env) ⟨[],ρ,rfl,Good.refl hr,.nil⟩
theorem Zov {e:Expr}{fg:Nat}{es:List Expr}{a:Ex}{as:Es}(hp:Plain e fg)(hs:Xy es)(h:PX K A env c e (Wr cl a))(h':PA K A env c cl es as):PA K A env c cl (e::es) (.cons a as):=by
 intro ℓ σ r σ' he ρ s hr fo
 rw[← Yt (env:=env) (Wc hp hs) ⟨0,0,0,0⟩]
 refine wpAny_items_cons ?_ (hp.star env es)
 rcases Zfb he with ⟨v,σ1,h3,h4⟩ | ⟨k,h3,rfl⟩
 ·refine wpAny_mono (h ℓ σ _ σ1 h3 ρ s hr fo) (fun cv s1 hq=>?_) fun u_ v_ f=>rEA (fun k e u=>oe e) f
  revert hq;refine Ym fun v' ρ1 e0 g1 rv=>?_
  rw[Yt hs]
  rcases Zfb h4 with ⟨vs,σ2,h5,h6⟩ | ⟨k,h5,rfl⟩
  ·refine pE h6 ?_
   refine wpAny_mono (h' ℓ σ1 _ _ h5 ρ1 s1 g1.hr (fo.step hr g1.st)) (fun cvs s2 hq=>?_) fun ev s2 hq=>rEA (fun k e u=>oe e) hq
   revert hq;refine Ym fun vs' ρ2 e1 g2 rvs=>?_
   exact ⟨_,ρ2,rfl,g1.trans g2,.cons ((oi e0▸rv).step g1.hr g2.st) (oi e1▸rvs)⟩
  ·refine wpAny_mono (h' ℓ σ1 _ _ h5 ρ1 s1 g1.hr (fo.step hr g1.st)) (fun cvs s2 hq=>Jz (fun vs' ρ2 e1 u=>eo e1) hq) fun ev s2 hq=>XE.to (hq.after g1)
 ·exact wpAny_mono (h ℓ σ _ _ h3 ρ s hr fo) (fun cv s1 hq=>Jz (fun v ρ1 e u=>eo e) hq) fun ev s1 hq=>XE.to hq
theorem Zow (G:GK K T)(hb:CallB K A cl){f:Str}{p pos:Pos}{es:List Expr}{as:Es}{n:Nat}(hg:Y5 c f=true)(hn:T.fns.lookup f=some n)(hc:Xy es)(h:PA K A env c cl es as):PX K A env c (.Call (.Name f p) es [] pos) (Jm cl (.call n as)):=by
 intro ℓ σ r σ' he ρ s hr fo
 refine Zgt G hg hn hc hr fo ?_
 rcases Zfb he with ⟨vs,σ1,h1,h2⟩ | ⟨k,h1,rfl⟩
 ·refine wpAny_mono (h ℓ σ _ _ h1 ρ s hr fo) (fun cvs s1 hq=>?_) fun ev s1 hq=>rEA (fun k e u=>oe e) hq
  revert hq;refine Ym fun vs' ρ1 e1 g1 rvs=>?_
  exact ⟨g1.hr.keep,hb.run h2 fo g1 (oi e1▸rvs)⟩
 ·exact wpAny_mono (h ℓ σ _ _ h1 ρ s hr fo) (fun cvs s1 hq=>Jz (fun v ρ1 e u=>eo e) hq) fun ev s1 hq=>XE.to hq
theorem Zox (G:GK K T)(hb:CallB K A cl){f:Str}{p pos:Pos}{es:List Expr}{as:Es}{n:Nat}(hg:Y5 c f=true)(hn:T.fns.lookup f=some n)(hc:Xy es)(h:PEs K A env c cl es as):PX K A env c (.Call (.Name f p) es [] pos) (Zg cl (.call n as)):=by
 intro ℓ σ r σ' he ρ s hr fo
 refine Yb (he) fun vs σ1 h1 h2=>?_
 exact Zgt G hg hn hc hr fo (Zcx (pos:=pos) hc h h1 hr fo fun ρ1 cvs s1 g1 rvs=>⟨g1.hr.keep,hb.run h2 fo g1 rvs⟩)
theorem Zl2 (W:WK K T cl.pg)(hb:CallB K A cl){o:Expr}{x:Str}{p pos:Pos}{es:List Expr}{a:Ex}{as:Es}{m:Nat}(hm:T.meths.lookup x=some m)(hline:(p.endLine == pos.line)=true)(hob:∀name w,attributeBase o name env w=w)(hlen:es.length<20)
  (hc:Xy es) (ho:PE K A env c cl o a) (h:PEs K A env c cl es as):PX K A env c (.Call (.Attribute o x p) es [] pos) (Zg cl (.ucall m a as)):=by
 intro ℓ σ r σ' he ρ s hr fo
 refine Yb (he) fun y σ1 h1 he=>?_
 refine Zw (he) fun f hf he=>?_
 refine Yb (he) fun vs σ2 h2 he=>?_
 exact Zkr W hm hline hob hlen hc ho h h1 hf h2 hr fo fun ρ2 cy cvs s2 g2 r=>hb.run he fo g2 r
end
noncomputable def FR (K:Kx)(ρ:List Addr)(h:Heap):Fl→Flow→Prop
 | .next,.next=>True
 | .brk,.brk=>True
 | .ret v,.ret cv=>RV K ρ h v cv
 | _,_=>False
noncomputable def Up (K:Kx)(A:Around)(T:Tabs)(env:Env)(c:CEnv)(ρ:List Addr)(s:Shared)(σ':H)(k:Nat)(ℓ':L)(ev:Value)(s':Shared):Prop :=
 s'.gens=s.gens∧s'.os=s.os∧∃ρ',∀outer,A.frames=some (env::outer)→Fly K (Yl env) ρ s ρ' σ' (env::outer) (K.tyv k) (FO K A env c ℓ' ρ') ev s'.heap∨
  (T.excs≠[]∧∃G e args,ev=.ref e∧FO K A env c ℓ' ρ' G∧HR K ρ' σ' G∧StepX (Yl env) ρ s ρ' { s with heap:=G }∧Heap.MadeExcOf G s'.heap e (K.tyv k) args)
abbrev TQ (K:Kx)(A:Around)(env:Env)(c:CEnv)(ρ:List Addr)(s:Shared)(f:Fl)(ℓ':L)(σ':H)(cf:Flow)(s':Shared):Prop:=∃ρ',HR K ρ' σ' s'.heap∧StepX (Yl env) ρ s ρ' s'∧FO K A env c ℓ' ρ' s'.heap∧FR K ρ' s'.heap f cf
abbrev TE (K:Kx)(A:Around)(T:Tabs)(env:Env)(c:CEnv)(ρ:List Addr)(s:Shared)(f:Fl)(ℓ':L)(σ':H)(ev:Value)(s':Shared):Prop:=∃k,f=.exc k∧Up K A T env c ρ s σ' k ℓ' ev s'
noncomputable def TS (K:Kx)(A:Around)(T:Tabs)(env:Env)(c:CEnv)(t:Sem Flow)(ρ:List Addr)(s:Shared)(f:Fl)(ℓ':L)(σ':H):Prop :=
 wpAny K.M A t (TQ K A env c ρ s f ℓ' σ') (TE K A T env c ρ s f ℓ' σ') s
noncomputable def PS (K:Kx)(A:Around)(T:Tabs)(env:Env)(c:CEnv)(cl:Cl)(st:Stmt)(a:St):Prop :=
 ∀ℓ σ f ℓ' σ',exec cl a ℓ σ=some (f,ℓ',σ')→∀ρ s,HR K ρ σ s.heap→FO K A env c ℓ ρ s.heap→TS K A T env c (PySem.exec st env) ρ s f ℓ' σ'
noncomputable def PSs (K:Kx)(A:Around)(T:Tabs)(env:Env)(c:CEnv)(cl:Cl)(ss:List Stmt)(a:Ss):Prop :=
 ∀ℓ σ f ℓ' σ',execs cl a ℓ σ=some (f,ℓ',σ')→∀ρ s,HR K ρ σ s.heap→FO K A env c ℓ ρ s.heap→TS K A T env c (PySem.execs ss env) ρ s f ℓ' σ'
theorem Zgu {α:Type}{x:X α}{k:α→H→Y}{f:Fl}(h:Zb9 x ℓ k=some (f,ℓ',σ')):(∃a σ1,x=some (.ok a,σ1)∧k a σ1=some (f,ℓ',σ'))∨∃j,x=some (.exc j,σ')∧f=.exc j∧ℓ'=ℓ:=by
 cases x with
 | none=>exact nn h
 | some p=>
  refine byC fun hX=>?_;obtain ⟨q,τ⟩:=p;refine hX ?_;clear hX
  cases q with
  | ok a=>exact .inl ⟨a,τ,rfl,h⟩
  | exc j=>refine p3E h ?_;exact .inr ⟨j,rfl,rfl,rfl⟩
section
variable {K:Kx}{A:Around}{env:Env}{c:CEnv}{cl:Cl}{T:Tabs}
theorem StepX.then {ρ2:List Addr}{s2:Shared}(x:StepX (Yl env) ρ s ρ1 s1)(fo:FO K A env c ℓ ρ1 s1.heap)(y:StepX (Yl env) ρ1 s1 ρ2 s2):StepX (Yl env) ρ s ρ2 s2:=x.trans y fo.X_some
theorem StepX.heap {X:List Addr}{G:Heap}(x:StepX X ρ s ρ' { s' with heap:=G }):StepX X ρ s ρ' { s with heap:=G }:=⟨x.pre,x.fr,x.fresh,rfl,rfl⟩
theorem Up.then {k:Nat}{ev:Value}(st:StepX (Yl env) ρ s ρ1 s1)(fo:FO K A env c ℓ ρ1 s1.heap)(u:Up K A T env c ρ1 s1 σ' k ℓ' ev s'):Up K A T env c ρ s σ' k ℓ' ev s':=by
 revert u;refine Zlf fun h1 h2 ρ' h3=>?_
 refine ⟨h1.trans st.gens,h2.trans st.os,ρ',fun outer hf=>?_⟩
 rcases h3 outer hf with h | ⟨h0,G,e,args,h4,h5,h6,h7,h8⟩
 ·exact .inl (h.map fun G u_ hP st2=>⟨(st.then fo st2).heap,hP⟩)
 ·exact .inr ⟨h0,G,e,args,h4,h5,h6,(st.then fo h7).heap,h8⟩
theorem Flies.up {k:Nat}{ev:Value}(hr:HR K ρ σ s.heap)(fo:FO K A env c ℓ ρ s.heap)(f:Flies K A ρ s σ' k ev s'):Up K A T env c ρ s σ' k ℓ ev s':=by
 revert f;refine Zlf fun h1 h2 ρ' h3=>?_
 exact ⟨h1,h2,ρ',fun outer hf=>.inl ((h3 _ hf).map fun G u_ v_ st=>⟨st.nil.toX _,fo.step hr st.nil⟩)⟩
theorem Zcy {f:Fl}{e:Expr}{g:L→H→X V}{kk:V→H→Y}(h:PX K A env c e g)(he:Zb9 (g ℓ σ) ℓ kk=some (f,ℓ',σ'))(hr:HR K ρ σ s.heap)(fo:FO K A env c ℓ ρ s.heap){Q:Value→Shared→Prop}
  (hq:∀v σ1 ρ1 cv s1,kk v σ1=some (f,ℓ',σ')→Good K ρ s ρ1 σ1 s1→RV K ρ1 s1.heap v cv→Q cv s1):wpAny K.M A (eval e env) Q (TE K A T env c ρ s f ℓ' σ') s:=by
 rcases Zgu he with ⟨v,σ1,h1,h2⟩ | ⟨j,h1,rfl,rfl⟩
 ·exact wpAny_mono (h ℓ σ _ σ1 h1 ρ s hr fo) (fun cv s1 hx=>hx.o fun ρ1 g1 rv=>hq v σ1 ρ1 cv s1 h2 g1 rv) fun ev s1 hx=>hx.o
 ·exact wpAny_mono (h ℓ' σ _ σ' h1 ρ s hr fo) (fun cv s1 hx=>hx.x) fun ev s1 hx=>⟨j,rfl,hx.x.up hr fo⟩
theorem Zoy:PSs K A T env c cl [] .nil:=by
 intro ℓ σ f ℓ' σ' he ρ s hr fo
 refine p3E he ?_
 exact wpAny_execs_nil ⟨ρ,hr,StepX.refl _ _ _,fo,trivial⟩
set_option tactic.hygienic true in
theorem Zl3 {st:Stmt}{ss:List Stmt}{a:St}{b:Ss}(h:PS K A T env c cl st a)(h':PSs K A T env c cl ss b):PSs K A T env c cl (st::ss) (.cons a b):=by
 intro ℓ σ f ℓ' σ' he ρ s hr fo
 have he:Qe (exec cl a ℓ σ) (fun ℓ1 σ1=>execs cl b ℓ1 σ1)=some (f,ℓ',σ'):=he
 cases h1:exec cl a ℓ σ with
 | none=>rw[h1] at he;exact nn he
 | some y=>
  refine byC fun hX=>?_;obtain ⟨f1,ℓ1,σ1⟩:=y;refine hX ?_;clear hX
  rw[h1] at he
  have hs:=h ℓ σ f1 ℓ1 σ1 h1 ρ s hr fo
  by_cases hn:f1=.next
  ·subst hn
   refine wpAny_execs_cons (wpAny_mono hs (fun cf s1 hq=>?_) fun ev s1 hq=>?_)
   ·revert hq;refine Q4 fun ρ1 hr1 st1 fo1 hfr=>?_
    cases cf with
    | next=>
     refine wpAny_mono (h' ℓ1 σ1 f ℓ' σ' he ρ1 s1 hr1 fo1) (fun cf s2 hq=>?_) fun ev s2 hq=>?_
     ·revert hq;refine Q4 fun ρ2 hr2 st2 fo2 hfr2=>?_
      exact ⟨ρ2,hr2,st1.then fo1 st2,fo2,hfr2⟩
     ·revert hq;refine rEA fun k e u=>?_;exact ⟨k,e,u.then st1 fo1⟩
    | _=>exact False.elim hfr
   ·revert hq;refine rEA fun k e u2_=>?_;cases e
  ·have e : (f1, ℓ1, σ1) = (f, ℓ', σ') := by
    cases f1 with
    | next=>exact absurd rfl hn
    | _=>exact Option.some.inj he
   cases e
   refine wpAny_execs_cons (wpAny_mono hs (fun cf s1 hq=>?_) fun ev s1 hq=>hq)
   revert hq;refine Q4 fun ρ1 hr1 st1 fo1 hfr=>?_
   cases cf with
   | next=>cases f with
    | next=>exact absurd rfl hn
    | _=>exact False.elim hfr
   | _=>exact ⟨ρ1,hr1,st1,fo1,hfr⟩
theorem Zoz {e:Expr}{pos:Pos}{a:Ex}(hs:swapsWith e none pos.line env=pure false)(h:PX K A env c e (Jm cl a)):PS K A T env c cl (.Expr e pos) (.expr a):=by
 intro ℓ σ f ℓ' σ' he ρ s hr fo
 refine wpAny_Expr_any (Zcy h he hr fo fun v σ1 ρ1 cv s1 h2 g1 rv=>?_) (by unfold interactive;rw[fo.kind];rfl) hs
 refine p3E h2 ?_
 exact ⟨ρ1,g1.hr,g1.st.toX _,fo.step hr g1.st,trivial⟩
theorem Zsh {e:Expr}{pos:Pos}{a:Ex}(h:PX K A env c e (Jm cl a)):PS K A T env c cl (.Return (some e) pos) (.ret a):=by
 intro ℓ σ f ℓ' σ' he ρ s hr fo
 refine wpAny_Return_some (Zcy h he hr fo fun v σ1 ρ1 cv s1 h2 g1 rv=>?_)
 refine p3E h2 ?_
 exact ⟨ρ1,g1.hr,g1.st.toX _,fo.step hr g1.st,rv⟩
theorem Zo0 {pos:Pos}:PS K A T env c cl (.Return none pos) (.ret (.lit .none)):=by
 intro ℓ σ f ℓ' σ' he ρ s hr fo
 refine p3E he ?_
 exact wpAny_Return_none ⟨ρ,hr,StepX.refl _ _ _,fo,.none⟩
set_option tactic.hygienic true in
theorem Zt4 {t:Expr}{x y:List Stmt}{pos:Pos}{a:Ex}{b d:Ss}(ht:PT K A env c cl t a)(hx:PSs K A T env c cl x b)(hy:PSs K A T env c cl y d):PS K A T env c cl (.If t x y pos) (.ife a b d):=by
 intro ℓ σ f ℓ' σ' he ρ s hr fo
 refine Ze4 (he) fun v σ1 h1 he=>?_
 show wpAny K.M A (do standAt pos;if ← isTrue t env (eval t env) then PySem.execs x env else PySem.execs y env) _ _ s
 refine wpAny_bind (wpAny_standAt (wpAny_bind ?_))
 split at he
 ·rename_i hv
  refine wpAny_mono (ht ℓ σ v σ1 true h1 hv ρ s hr fo) (fun q s1 hq=>?_) fun u_ v_ f=>f.elim
  revert hq;refine rEA fun ρ1 g1 hO2=>?_;refine eqS hO2 ?_
  refine wpAny_mono (hx ℓ σ1 f ℓ' σ' he ρ1 s1 g1.hr (fo.step hr g1.st)) (fun cf s2 hq=>?_) fun ev s2 hq=>?_
  ·revert hq;refine Q4 fun ρ2 hr2 st2 fo2 hfr=>?_
   exact ⟨ρ2,hr2,(g1.st.toX _).then (fo.step hr g1.st) st2,fo2,hfr⟩
  ·revert hq;refine rEA fun k e u=>?_;exact ⟨k,e,u.then (g1.st.toX _) (fo.step hr g1.st)⟩
 ·rename_i hv
  refine wpAny_mono (ht ℓ σ v σ1 false h1 hv ρ s hr fo) (fun q s1 hq=>?_) fun u_ v_ f=>f.elim
  revert hq;refine rEA fun ρ1 g1 hO2=>?_;refine eqS hO2 ?_
  refine wpAny_mono (hy ℓ σ1 f ℓ' σ' he ρ1 s1 g1.hr (fo.step hr g1.st)) (fun cf s2 hq=>?_) fun ev s2 hq=>?_
  ·revert hq;refine Q4 fun ρ2 hr2 st2 fo2 hfr=>?_
   exact ⟨ρ2,hr2,(g1.st.toX _).then (fo.step hr g1.st) st2,fo2,hfr⟩
  ·revert hq;refine rEA fun k e u=>?_;exact ⟨k,e,u.then (g1.st.toX _) (fo.step hr g1.st)⟩
 ·exact nn he
theorem Zsi {pos:Pos}:PS K A T env c cl (.Break pos) .brk:=by
 intro ℓ σ f ℓ' σ' he ρ s hr fo
 refine p3E he ?_
 exact wpAny_Break ⟨ρ,hr,StepX.refl _ _ _,fo,trivial⟩
theorem Zo1 {pos:Pos}:PS K A T env c cl (.Pass pos) .pass:=by
 intro ℓ σ f ℓ' σ' he ρ s hr fo
 refine p3E he ?_
 exact wpAny_Pass ⟨ρ,hr,StepX.refl _ _ _,fo,trivial⟩
theorem Zcz {x:Str}{a:Addr}(h:a=env.locals∨(c.names.lookup x=some .cell∧(x,a)∈env.cells)):∀b∈[a],b∈Yl env:=by
 intro b hb
 rw[List.mem_singleton.mp hb]
 rcases h with rfl | ⟨_,h⟩
 ·exact List.mem_cons_self
 ·exact List.mem_cons_of_mem _ (List.mem_map.mpr ⟨_,h,rfl⟩)
theorem Zl4 {x:Str}{px pos:Pos}{e:Expr}{i:Nat}{a:Ex}(hs:swapsWith e (some (.Name x px)) pos.line env=pure false)(hx:Um c x=some i)(h:PX K A env c e (Jm cl a)):PS K A T env c cl (.Assign [.Name x px] e pos) (.asg (.one i) a):=by
 intro ℓ σ f ℓ' σ' he ρ s hr fo
 show wpAny K.M A (PySem.exec (.Assign [.Name x px] e pos) env) _ _ s
 rw[exec_Assign_Name _ _ _ _ _ hs]
 refine wpAny_bind (wpAny_standAt (wpAny_bind (Zcy h he hr fo fun v σ1 ρ1 cv s1 h2 g1 rv=>?_)))
 refine Jx ((show (Qh ℓ i v).map _=_ from h2)) fun ℓ1 hset e=>?_
 cases e
 refine wpAny_bind (wpAny_standAt (wpAny_bind (wpAny_bindName (Jn (fo.step hr g1.st) g1.hr hx hset rv fun s2 b hb hr2 st2 fo2=>wpAny_pure ?_))))
 exact ⟨ρ1,hr2,(g1.st.toX _).then (fo.step hr g1.st) (st2.weaken (Zcz hb)),fo2,trivial⟩
theorem Zgv {x:Str}{px pos:Pos}{elt iter:Expr}{y:Str}{py p:Pos}{ifs:List Expr}{sc:Scope}{a:Ex}{it:It}{fs:Es}{tg i:Nat}(hh:A.handled=none)(ok:CompOK c sc)(hfs:∀v,foldedSetIterable iter env v=pure v)
  (hy:Um (Jb c sc) y=some tg) (hyl:(Jb c sc).names.lookup y=some .local) (hI:PI K A env c cl iter it) (he:∀cenv,PE K A cenv (Jb c sc) cl elt a) (hf:∀cenv,PF K A cenv (Jb c sc) cl ifs fs)
  (hs:swapsWith (.ListComp elt [⟨.Name y py,iter,ifs,0⟩] sc p) (some (.Name x px)) pos.line env=pure true) (hx:Um c x=some i) :
  PS K A T env c cl (.Assign [.Name x px] (.ListComp elt [⟨.Name y py,iter,ifs,0⟩] sc p) pos) (.asg (.one i) (.comp a tg it fs)):=by
 intro ℓ σ f ℓ' σ' hev ρ s hr fo
 rcases Zgu hev with ⟨v,σ1,h1,hev⟩ | ⟨j,h1,_⟩
 rotate_left
 ·exact rEA (fun u_ e1 v_=>eo e1) (Zfa h1)
 have h1:Zg cl (.comp a tg it fs) ℓ σ=some (.ok v,σ1):=by refine rEA (fun w e1 h2=>?_) (Zfa h1);exact oi e1▸h2
 refine Jx ((show (Qh ℓ i v).map _=_ from hev)) fun ℓ1 hset e=>?_
 cases e
 refine Yb (h1) fun src σa k1 h1=>?_
 refine Yb (h1) fun vs σ2 k2 h1=>?_
 refine byC fun hX=>?_;refine rA (fun hO0 hO1=>?_) (okJ h1);obtain rfl:=hO0;obtain rfl:=hO1;refine hX ?_;clear hX
 show wpAny K.M A (PySem.exec (.Assign [.Name x px] (.ListComp elt [⟨.Name y py,iter,ifs,0⟩] sc p) pos) env) _ _ s
 rw[exec_Assign_Name_used (env:=env) x px _ pos hs]
 refine wpAny_bind (wpAny_standAt (wpAny_bind ?_))
 unfold evalThenUse
 refine wpAny_bind (Zd6 hh ok hfs hy hyl hI he hf k1 k2 hr fo fun s' D C ρ' cacc m e=>?_)
 refine J5 (fun ρ'' g r hCρ=>?_) (e.done (Heap.SameBut.refl C s'.heap))
 have fo1:=fo.step hr g.st
 refine rE (fun m' hnC=>?_) e.ns
 have hcn:∀b∈Yl env,b≠C:=fun b hb=>by
  refine rE (fun o eo=>?_) (fo.X_some b hb)
  rintro rfl
  rw[e.newC] at eo;exact nn eo
 refine wpAny_assign_Name (Jn fo1 g.hr hx hset r fun s2 b hb hr2 st2 fo2=>?_)
 have hbX:=Zcz hb b List.mem_cons_self
 have hn2:s2.heap.Ns C m':=Ns.ng hnC fun o eo=>st2.fr C o eo hCρ fun hm=>hcn b hbX (List.mem_singleton.mp hm).symm
 refine ⟨m',hn2,fun h' hs'=>wpAny_pure (wpAny_pure ?_)⟩
 have hbut:∀b o,b≠C→s2.heap.get? b=some o→h'.get? b=some o:=fun b o hb e=>(hs'.2 b hb).trans e
 refine ⟨ρ'',hr2.but hCρ e.c0 (Ns.not_tup hn2) hbut,?_,fo2.butF (fun e=>hcn env.locals List.mem_cons_self e.symm) (fun y a hy=>hcn a (List.mem_cons_of_mem _ (List.mem_map.mpr ⟨_,hy,rfl⟩))) (Ns.not_tup hn2) (fun fs hf env' he'=>?_) hbut,trivial⟩
 rotate_left
 ·refine Qf (fun u0_ L o h2 u4_ u5_ h5 u7_=>?_) (fo.ff fs hf env' he')
  refine Qf (fun q1 L' o' q2 q3 q4 q5 q6=>?_) (fo2.ff fs hf env' he')
  rw[h2] at q2;obtain rfl:=Option.some.inj q2
  exact ⟨q1,L,o',h2,q3,q4,hbut _ _ (by rintro rfl;rw[e.newC] at h5;exact nn h5) q5,q6⟩
 have st3:=(g.st.toX (Yl env)).then fo1 (st2.weaken (Zcz hb))
 exact ⟨st3.pre,fun z o ez hz hX=>Uz (fun o h=>hbut z o (by rintro rfl;rw[ng_none.mpr e.newC] at ez;exact nn ez) h) (st3.fr z o ez hz hX),st3.fresh,st3.gens,st3.os⟩
noncomputable def PTg (K:Kx)(A:Around)(env:Env)(c:CEnv)(t:Expr)(g:Tg):Prop:=∀(ℓ ℓ1:L) (v:V),Q8 g v ℓ=some ℓ1→∀(ρ:List Addr) (σ:H) (s:Shared) (cv:Value),HR K ρ σ s.heap→FO K A env c ℓ ρ s.heap→RV K ρ s.heap v cv→∀(Q:Unit→Shared→Prop) (E:Value→Shared→Prop),
 (∀s2,HR K ρ σ s2.heap→StepX (Yl env) ρ s ρ s2→FO K A env c ℓ1 ρ s2.heap→Q () s2)→wpAny K.M A (assign t env cv) Q E s
theorem Zo2 {x:Str}{px:Pos}{i:Nat}(hx:Um c x=some i):PTg K A env c (.Name x px) (.one i):=fun ℓ ℓ1 v hset ρ σ s cv hr fo rv Q E hq=>wpAny_assign_Name (Jn fo hr hx hset rv fun s2 b hb hr2 st2 fo2=>hq s2 hr2 (st2.weaken (Zcz hb)) fo2)
theorem Qm {i:Nat}{is:List Nat}{vs:List V}{ℓ1:L}(h:Uf (i::is) vs ℓ=some ℓ1):∃v r ℓ2,vs=v::r∧Qh ℓ i v=some ℓ2∧Uf is r ℓ2=some ℓ1:=by
 cases vs with
 | nil=>exact nn h
 | cons v r=>
  refine Zw ((show (Qh ℓ i v).bind _=_ from h)) fun ℓ2 h1 h2=>?_
  exact ⟨v,r,ℓ2,rfl,h1,h2⟩
theorem Zo3 (he:Heap.ExtBut h.objs.size h h'):∀b o,h.get? b=some o→h'.get? b=some o:=fun b o e=>he b o (Nat.ne_of_lt (Heap.lt_size e)) e
theorem FO.keeps (fo:FO K A env c ℓ ρ s.heap)(hr:HR K ρ σ s.heap)(hk:∀b o,s.heap.get? b=some o→h'.get? b=some o):FO K A env c ℓ ρ h' :=
 fo.step (s':={ s with heap:=h' }) hr ⟨List.prefix_refl _,fun b o e u_=>Ws hk e,fun u_ h=>.inl h,rfl,rfl⟩
theorem StepX.keeps (X ρ:List Addr)(s:Shared)(hk:∀b o,s.heap.get? b=some o→h'.get? b=some o):StepX X ρ s ρ { s with heap:=h' }:=⟨List.prefix_refl _,fun b o e u_ v_=>Ws hk e,fun u_ h=>.inl h,rfl,rfl⟩
theorem Zkt {x y z:Str}{p q u px:Pos}{k}{i j n:Nat}(hh:A.handled=none)(hx:Um c x=some i)(hy:Um c y=some j)(hz:Um c z=some n):PTg K A env c (.Tuple [.Name x p,.Name y q,.Name z u] k px) (.three i j n):=by
 intro ℓ ℓ1 v hset ρ σ s cv hr fo rv Q E hq
 refine Zw (hset) fun vs hv hset=>?_
 obtain rfl:=Zbg hv
 refine byC fun hX=>?_;obtain ⟨v1,r,ℓ2,rfl,e1,hset⟩:=Qm hset;refine hX ?_;clear hX
 refine byC fun hX=>?_;obtain ⟨v2,r2,ℓ3,rfl,e2,hset⟩:=Qm hset;refine hX ?_;clear hX
 refine byC fun hX=>?_;obtain ⟨v3,r3,ℓ4,rfl,e3,hset⟩:=Qm hset;refine hX ?_;clear hX
 have hn:r3=[]∧ℓ4=ℓ1:=by
  cases r3 with
  | nil=>exact ⟨rfl,Option.some.inj hset⟩
  | cons _ _=>exact nn hset
 refine byC fun hX=>?_;obtain ⟨rfl,rfl⟩:=hn;refine hX ?_;clear hX
 refine byC fun hX=>?_;obtain ⟨a,cvs,rfl,ha,rvs,hl⟩:=rv.tupI rfl;refine hX ?_;clear hX
 refine byC fun hX=>?_;obtain ⟨c1,cr,rfl,g1,rvs⟩:=rvs.consI;refine hX ?_;clear hX
 refine byC fun hX=>?_;obtain ⟨c2,cr,rfl,g2,rvs⟩:=rvs.consI;refine hX ?_;clear hX
 refine byC fun hX=>?_;obtain ⟨c3,cr,rfl,g3,rvs⟩:=rvs.consI;refine hX ?_;clear hX
 obtain rfl:=rvs.nilI
 refine assign_Tuple_tuple hh ⟨_,ha,rfl,_,rfl⟩ rfl rfl fun h' he=>?_
 have hk:=Zo3 he
 have fo1:=fo.keeps hr hk
 show wpAny K.M A (assignInOrder [assign (.Name x p) env,assign (.Name y q) env,assign (.Name z u) env] [c1,c2,c3]) Q E _
 refine assignInOrder_cons (wpAny_assign_Name (Jn fo1 (hr.grow hk) hx e1 (g1.mono (List.prefix_refl _) fun b vs e=>hk _ _ e) fun s2 b hb hr2 st2 fo2=>?_))
 have st2':=(StepX.keeps _ _ _ hk).then fo1 (st2.weaken (Zcz hb))
 refine assignInOrder_cons (wpAny_assign_Name (Jn fo2 hr2 hy e2 (g2.mono (List.prefix_refl _) (st2'.tups hr fo.X_nt)) fun s3 b3 hb3 hr3 st3 fo3=>?_))
 have st3':=st2'.then fo2 (st3.weaken (Zcz hb3))
 refine assignInOrder_cons (wpAny_assign_Name (Jn fo3 hr3 hz e3 (g3.mono (List.prefix_refl _) (st3'.tups hr fo.X_nt)) fun s4 b4 hb4 hr4 st4 fo4=>?_))
 exact assignInOrder_nil (hq s4 hr4 (st3'.then fo3 (st4.weaken (Zcz hb4))) fo4)
theorem Zl5 {ts:List Expr}{k}{px pos:Pos}{e:Expr}{tg:Tg}{a:Ex}(hs:swapsWithSole [.Tuple ts k px] e pos.line env=pure false)(hw:swappedStores [.Tuple ts k px] e env=pure none)(hx:PTg K A env c (.Tuple ts k px) tg)(h:PX K A env c e (Jm cl a)):PS K A T env c cl (.Assign [.Tuple ts k px] e pos) (.asg tg a):=by
 intro ℓ σ f ℓ' σ' he ρ s hr fo
 refine Assign_Tuple (Zcy h he hr fo fun v σ1 ρ1 cv s1 h2 g1 rv=>?_) hs hw
 refine Jx (h2) fun ℓ1 hset e=>?_
 cases e
 have fo1:=fo.step hr g1.st
 exact hx ℓ ℓ' v hset ρ1 σ' s1 cv g1.hr fo1 rv _ _ fun s2 hr2 st2 fo2=>⟨ρ1,hr2,(g1.st.toX _).then fo1 st2,fo2,trivial⟩
end
end Mini.Internal
namespace Mini.Internal
open PySem PyProof.Rows PySem.SeqAt
variable {ρ ρ' ρ1:List Addr}{σ σ' σ1:H}{s s' s1:Shared}{h h':Heap}{ℓ ℓ':L}
section
variable {K:Kx}{A:Around}{env:Env}{c:CEnv}{cl:Cl}{T:Tabs}
theorem ItOK.stepX {I:Addr}{i:Nat}{src:Src}{k:ItK}(x:ItOK K ρ I i s.heap src k)(hr:HR K ρ σ s.heap)(fo:FO K A env c ℓ ρ s.heap)(hI:I ∉ Yl env)(st:StepX (Yl env) ρ s ρ' s'):ItOK K ρ' I i s'.heap src k:=by
 refine rEA (fun o eo u2_=>?_) x.st.obj
 refine x.move st.pre (fun o e=>st.ex e x.off hI (x.st.nf e)) (st.tups hr fo.X_nt) fun hm=>?_
 rcases st.fresh I hm with h | h
 ·exact x.off h
 ·rw[eo] at h;exact ns h
noncomputable def Lp (K:Kx)(A:Around)(env:Env)(c:CEnv)(J:Nat→List Addr→Heap→Prop)(i:Nat)(ρ:List Addr)(σ:H)(ℓ:L)(s:Shared):Prop:=J i ρ s.heap∧HR K ρ σ s.heap∧FO K A env c ℓ ρ s.heap
structure Drw (K:Kx)(A:Around)(env:Env)(c:CEnv)(te:Expr)(iv:Value)(vs:List V)(keep:H→Prop)(Y:List Addr)(J:Nat→List Addr→Heap→Prop):Prop where
 ex:∀i ρ h,J i ρ h→∀b∈Y,∃o,h.get? b=some o
 step:∀i ρ ρ' σ ℓ s s',Lp K A env c J i ρ σ ℓ s→StepX (Yl env) ρ s ρ' s'→J i ρ' s'.heap
 next:∀i ρ σ ℓ s (Q E:Value→Shared→Prop) (R:Option Value→Shared→Prop) v,Lp K A env c J i ρ σ ℓ s→keep σ→vs[i]?=some v→(∀w s1,wpAny K.M A (letOwnedTupleGo te iv w) (fun u_ s2=>Q w s2) E s1→R (some w) s1)→
  (∀cv s1,StepX Y ρ s ρ s1→Lp K A env c J (i+1) ρ σ ℓ s1→RV K ρ s1.heap v cv→Q cv s1)→wpAny K.M A (pyNext iv) R E s
 done:∀i ρ σ ℓ s (E:Value→Shared→Prop) (R:Option Value→Shared→Prop),Lp K A env c J i ρ σ ℓ s→keep σ→i=vs.length→(∀s1,StepX Y ρ s ρ s1→HR K ρ σ s1.heap→FO K A env c ℓ ρ s1.heap→R none s1)→wpAny K.M A (pyNext iv) R E s
theorem Good.fin {X Y ρ2:List Addr}{σ2:H}{s0 s2:Shared}(g:Good K ρ s0 ρ2 σ2 s2)(hY:∀b∈Y,s0.heap.get? b=none)(st:StepX (Y++X) ρ2 s2 ρ' s'):StepX X ρ s0 ρ' s':=by
 refine ⟨g.st.pre.trans st.pre,fun z o e hz hX=>?_,fun z hz=>?_,st.gens.trans g.st.gens,st.os.trans g.st.os⟩
 ·refine st.fr z o (g.st.fr z o e hz) (fun h=>?_) fun h=>?_
  ·rcases g.st.fresh z h with h | h
   ·exact hz h
   ·rw[ng_none.mpr h] at e;exact nn e
  ·rcases List.mem_append.mp h with h | h
   ·rw[ng_none.mpr (hY z h)] at e;exact nn e
   ·exact hX h
 ·rcases st.fresh z hz with h | h
  ·exact g.st.fresh z h
  ·by_cases hr':z∈ρ
   ·exact .inl hr'
   ·right
    cases hg:s0.heap.get? z with
    | none=>rfl
    | some o=>have:=g.st.fr z _ (J7 hg) hr';rw[ng_none.mpr h] at this;cases this
theorem Zh3 {t:Sem Flow}{f:Fl}(h:∀(Q:Flow→Shared→Prop) (E:Value→Shared→Prop),(∀ρ' cf s',HR K ρ' σ' s'.heap→StepX (Yl env) ρ s ρ' s'→FO K A env c ℓ' ρ' s'.heap→FR K ρ' s'.heap f cf→Q cf s')→wpAny K.M A t Q E s):TS K A T env c t ρ s f ℓ' σ':=h _ _ fun ρ' u_ v_ h1 h2 h3 h4=>⟨ρ',h1,h2,h3,h4⟩
theorem Zl6 {α:Type}{t:Sem α}{P:List Addr→α→Shared→Prop}{Q:α→Shared→Prop}{E:Value→Shared→Prop}(h:TR K A t ρ s σ' P)(k:∀ρ1 a s1,Good K ρ s ρ1 σ' s1→P ρ1 a s1→Q a s1):wpAny K.M A t Q E s :=
 wpAny_mono h (fun a s1 ⟨ρ1,g,p⟩=>k ρ1 a s1 g p) fun u_ v_ f=>f.elim
set_option tactic.hygienic true in
theorem Zl7 {f1 f:Fl}{cf:Flow}{ℓ2 ℓf:L}{σ2 σf:H}{Q:Flow→Shared→Prop}(h:(f1=.brk∧f=.next∨(∃v,f1=.ret v∧f=.ret v))∧ℓf=ℓ2∧σf=σ2)(hQ:∀cf,FR K ρ' s'.heap f cf→Q cf s')(fr:FR K ρ' s'.heap f1 cf) :
  match cf with | .next | .cont=>False | .brk=>Q .next s' | .ret v=>Q (.ret v) s':=by
 rcases h.1 with ⟨e1,e2⟩ | ⟨v,e1,e2⟩
 ·rw[e1] at fr;rw[e2] at hQ
  cases cf with
  | brk=>exact hQ .next trivial
  | _=>exact fr.elim
 ·rw[e1] at fr;rw[e2] at hQ
  cases cf with
  | ret cv=>exact hQ (.ret cv) fr
  | _=>exact fr.elim
set_option tactic.hygienic true in
theorem Zd7 {y:Y}{k:L→H→Y}{f:Fl}{ℓf:L}{σf:H}(h:Zcq y k=some (f,ℓf,σf)):∃f1 ℓ2 σ2,y=some (f1,ℓ2,σ2)∧(f1=.next→k ℓ2 σ2=some (f,ℓf,σf))∧(f1≠.next→(f1=.brk∧f=.next∨(∃v,f1=.ret v∧f=.ret v))∧ℓf=ℓ2∧σf=σ2):=by
 cases y with
 | none=>exact nn h
 | some z=>
  refine byC fun hX=>?_;obtain ⟨f1,ℓ2,σ2⟩:=z;refine hX ?_;clear hX
  refine ⟨f1,ℓ2,σ2,rfl,fun e=>?_,fun e=>?_⟩
  ·rw[e] at h;exact h
  ·cases f1 with
   | next=>exact absurd rfl e
   | brk=>refine p3E h ?_;exact ⟨.inl ⟨rfl,rfl⟩,rfl,rfl⟩
   | ret w=>refine p3E h ?_;exact ⟨.inr ⟨w,rfl,rfl⟩,rfl,rfl⟩
   | exc k=>exact nn h
set_option tactic.hygienic true in
theorem Zsj {body:L→H→Y}{t:Tg}{keep:H→Prop}{v:V}{r:List V}{f:Fl}{ℓf:L}{σf:H}{P:Prop}(h:Zaf body t keep (v::r) ℓ σ=some (f,ℓf,σf))
  (k1:∀ℓ1 f1 ℓ2 σ2,Q8 t v ℓ=some ℓ1→body ℓ1 σ=some (f1,ℓ2,σ2)→(f1=.next→keep σ2∧Zaf body t keep r ℓ2 σ2=some (f,ℓf,σf))→
   (f1≠.next→(f1=.brk∧f=.next∨(∃v,f1=.ret v∧f=.ret v))∧ℓf=ℓ2∧σf=σ2)→P):P:=by
 refine Zw ((show (Q8 t v ℓ).bind _=_ from h)) fun ℓ1 hset h=>?_
 refine Us (fun f1 ℓ2 σ2 hb h1 h2=>?_) (Zd7 h)
 exact k1 ℓ1 f1 ℓ2 σ2 hset hb (fun e=>Jf (h1 e)) h2
set_option tactic.hygienic true in
theorem Zjb {f1 f:Fl}{k:Nat}{P:Prop}(h:(f1=.brk∧f=.next∨(∃v,f1=.ret v∧f=.ret v))∧P)(q:f1=.exc k):False:=by
 rw[q] at h
 rcases h.1 with ⟨h,_⟩ | ⟨_,h,_⟩ <;> cases h
set_option tactic.hygienic true in
theorem Zl8 {te:Expr}{iv:Value}{vs:List V}{keep:H→Prop}{Y:List Addr}{J:Nat→List Addr→Heap→Prop}(D:Drw K A env c te iv vs keep Y J){body:List Stmt}{b:Ss}{tg:Tg}(hx:PTg K A env c te tg)(hb:PSs K A T env c cl body b){ρ0 ρ2:List Addr}{s0 s2:Shared}{σ0:H}{ℓf:L}{f:Fl}{σf:H}(hr:HR K ρ0 σ0 s0.heap)(fo:FO K A env c ℓ ρ0 s0.heap)
  (g:Good K ρ0 s0 ρ2 σ s2) (hY:∀b∈Y,s0.heap.get? b=none) (hJ:J 0 ρ2 s2.heap) (hk:keep σ) (hev:Zaf (execs cl b) tg keep vs ℓ σ=some (f,ℓf,σf)) {Q:Flow→Shared→Prop}{E:Value→Shared→Prop} (hQ:∀ρ' cf s',HR K ρ' σf s'.heap→StepX (Yl env) ρ0 s0 ρ' s'→FO K A env c ℓf ρ' s'.heap→FR K ρ' s'.heap f cf→Q cf s') :
  codeAny K.M A (.forLoop te iv body [] env) (fun r s'=>match r with | .ok f=>Q f s' | .error e=>cameBackBy K.M A env E e s') s2:=by
 have wk:∀z∈Yl env,z∈Y++Yl env:=fun z h=>List.mem_append_right _ h
 have ex:∀{i ρ σ ℓ s},Lp K A env c J i ρ σ ℓ s→∀z∈Y++Yl env,∃o,s.heap.get? z=some o:=fun l z hz=>(List.mem_append.mp hz).elim (D.ex _ _ _ l.1 z) (l.2.2.X_some z)
 refine codeAny_forLoop_any (fun n s=>∃i ρ' σ' ℓ',(n=vs.length-i∧i≤vs.length)∧Lp K A env c J i ρ' σ' ℓ' s∧StepX (Y++Yl env) ρ2 s2 ρ' s∧keep σ'∧Zaf (execs cl b) tg keep (vs.drop i) ℓ' σ'=some (f,ℓf,σf)) (fun n s hJ=>?_) (vs.length-0) ⟨0,ρ2,σ,ℓ,⟨rfl,Nat.zero_le _⟩,⟨hJ,g.hr,fo.step hr g.st⟩,StepX.refl _ _ _,hk,hev⟩
 refine byC fun hX=>?_;obtain ⟨i,ρ',σ',ℓ',hn,l,st,hk,hrun⟩:=hJ;refine hX ?_;clear hX
 have wy:=fun s1 (st1:StepX Y ρ' s ρ' s1)=>st.trans (st1.weaken fun z h=>List.mem_append_left _ h) (ex l)
 rcases Nat.lt_or_ge i vs.length with hi | hi
 ·rw[List.drop_eq_getElem_cons hi] at hrun
  refine Zsj hrun fun ℓ1 f1 ℓ2 σ2 hset hbody h4 h5=>?_
  refine D.next i ρ' σ' ℓ' s _ _ _ _ l hk (List.getElem?_eq_getElem hi) (fun w s1 h=>h) fun cv s1 st1 l1 rv=>?_
  refine hx ℓ' ℓ1 _ hset ρ' σ' s1 cv l1.2.1 l1.2.2 rv _ _ fun sB hrB stB foB=>?_
  have lB:Lp K A env c J (i+1) ρ' σ' ℓ1 sB:=⟨D.step _ _ _ _ _ _ _ l1 stB,hrB,foB⟩
  refine wpAny_mono (hb ℓ1 σ' f1 ℓ2 σ2 hbody ρ' sB hrB foB) (fun cf sC hq=>?_) fun u_ v_ hx=>?_
  ·refine byC fun hX=>?_;obtain ⟨ρC,hrC,stC,foC,frC⟩:=hq;refine hX ?_;clear hX
   have stE:=((wy s1 st1).trans (stB.weaken wk) (ex l1)).trans (stC.weaken wk) (ex lB)
   by_cases e:f1=.next
   ·rw[e] at frC
    cases cf with
    | next=>exact ⟨vs.length-(i+1),hn.1▸Nat.sub_lt_sub_left hi (Nat.lt_succ_self i),i+1,ρC,σ2,ℓ2,⟨rfl,hi⟩,⟨D.step _ _ _ _ _ _ _ lB stC,hrC,foC⟩,stE,(h4 e).1,(h4 e).2⟩
    | _=>exact frC.elim
   ·have:=Zl7 (Q:=Q) (h5 e) (fun cf' hf'=>hQ ρC cf' sC ((h5 e).2.2▸hrC) (g.fin hY stE) ((h5 e).2.1▸foC) hf') frC
    cases cf with
    | next=>exact this.elim
    | cont=>exact this.elim
    | brk=>exact this
    | ret v=>exact this
  ·refine byC fun hX=>?_;obtain ⟨kk,e,_⟩:=hx;refine hX ?_;clear hX
   exact (Zjb (h5 (by rw[e];intro h;cases h)) e).elim
 ·rw[List.drop_eq_nil_of_le hi] at hrun
  have e:=pJ3 (show some (Fl.next,ℓ',σ')=some (f,ℓf,σf) from hrun)
  exact D.done i ρ' σ' ℓ' s _ _ l hk (Nat.le_antisymm hn.2 hi) fun s1 st1 hr1 fo1=>wpAny_execs_nil (hQ ρ' .next s1 (e.2.2▸hr1) (g.fin hY (wy s1 st1)) (e.2.1▸fo1) (e.1▸trivial))
theorem FO.out (fo:FO K A env c ℓ ρ h){b:Addr}(hb:h.get? b=none):b ∉ Yl env:=fun hm=>by
 refine byC fun hX=>?_;obtain ⟨o,e⟩:=fo.X_some b hm;refine hX ?_;clear hX
 rw[hb] at e;exact nn e
theorem FO.off (fo:FO K A env c ℓ ρ h){I:Addr}(hI:I ∉ Yl env)(hnt:∀vs,h.get? I≠some (Zz vs))(hnd:∀o,h.get? I=some o→¬ dy o)(hk:∀b o,b≠I→h.get? b=some o→h'.get? b=some o):FO K A env c ℓ ρ h' :=
 fo.but (fun e=>hI (by rw[e];exact List.mem_cons_self)) (fun y a hy e=>hI (by rw[← e];exact List.mem_cons_of_mem _ (List.mem_map.mpr ⟨_,hy,rfl⟩))) hnt hnd hk
theorem ItOK.fo {I:Addr}{i:Nat}{src:Src}{k:ItK}(x:ItOK K ρ I i h src k)(fo:FO K A env c ℓ ρ h)(hI:I ∉ Yl env)(hk:∀b o,b≠I→h.get? b=some o→h'.get? b=some o):FO K A env c ℓ ρ h':=fo.off hI x.not_tup (fun u_ e=>x.st.nf e) hk
set_option tactic.hygienic true in
theorem Zsk {x:Str}{px:Pos}{src:Src}{k:ItK}{I:Addr}(hh:A.handled=none)(hI:I ∉ Yl env):Drw K A env c (.Name x px) (.ref I) src.vs src.keep [I] (fun i ρ h=>ItOK K ρ I i h src k) where
 ex:=fun i ρ h x b hb=>by rw[List.mem_singleton.mp hb];exact rEA (fun o e u_=>⟨o,e⟩) x.st.obj
 step:=fun i ρ ρ' σ ℓ s s' l st=>l.1.stepX l.2.1 l.2.2 hI st
 next:=fun i ρ σ ℓ s Q E R v l hk hv hR hq=>Zi8 hh l.1 l.2.1 hk hv fun cv h' tk hk1 hr1 rv1 it1=>hR _ _ (wpAny_pure (hq cv _ (StepX.one hk1) ⟨it1,hr1,l.1.fo l.2.2 hI hk1⟩ rv1))
 done:=fun i ρ σ ℓ s E R l hk hv hq=>Zi9 hh l.1 l.2.1 hk hv fun h' tk hk1 hr1=>hq _ (StepX.one hk1) hr1 (l.1.fo l.2.2 hI hk1)
theorem Zsl {x:Str}{px pos:Pos}{iter:Expr}{it:It}{body:List Stmt}{b:Ss}{tg:Tg}(hh:A.handled=none)(hfs:∀v,foldedSetIterable iter env v=pure v)(hx:PTg K A env c (.Name x px) tg)(hI:PI K A env c cl iter it)(hb:PSs K A T env c cl body b) :
  PS K A T env c cl (.For (.Name x px) iter body [] pos) (.for_ tg it b):=by
 intro ℓ σ f ℓf σf hev ρ s0 hr fo
 refine Ze4 (hev) fun src σ1 h1 hev=>?_
 refine Zh3 fun Q E hQ=>?_
 refine wpAny_For (wpAny_mono (hI ℓ σ src σ1 h1 ρ s0 hr fo) (fun xv s1 hq=>wpAny_mono hq (fun itv s2 hq=>?_) fun u_ v_ f=>f.elim) fun u_ v_ f=>f.elim) hfs
 refine byC fun hX=>?_;obtain ⟨ρ2,I,k,rfl,g2,itok,hkeep,hIn⟩:=hq;refine hX ?_;clear hX
 exact Zl8 (Zsk hh (fo.out hIn)) hx hb hr fo g2 (fun b hb=>List.mem_singleton.mp hb▸hIn) itok hkeep hev hQ
set_option tactic.hygienic true in
theorem Zl9 {test:L→H→X V}{body:L→H→Y}{n:Nat}{f:Fl}{ℓf:L}{σf:H}{P:Prop}(h:Wx test body n ℓ σ=some (f,ℓf,σf))
  (k0:∀v σ1,test ℓ σ=some (.ok v,σ1)→Uq v=some false→f=.next→ℓf=ℓ→σf=σ1→P)
  (k1:∀m v σ1 f1 ℓ2 σ2,m<n→test ℓ σ=some (.ok v,σ1)→Uq v=some true→body ℓ σ1=some (f1,ℓ2,σ2)→
   (f1=.next→Wx test body m ℓ2 σ2=some (f,ℓf,σf))→(f1≠.next→(f1=.brk∧f=.next∨(∃v,f1=.ret v∧f=.ret v))∧ℓf=ℓ2∧σf=σ2)→P):P:=by
 cases n with
 | zero=>exact nn h
 | succ n=>
  refine Ze4 ((show Zga (test ℓ σ) _=_ from h)) fun v σ1 ht h=>?_
  refine Zw (h) fun b hv h=>?_
  cases b with
  | false=>exact rAA (fun e1 e2 e3=>k0 v σ1 ht hv e1.symm e2.symm e3.symm) (pJ3 h)
  | true=>
   refine Us (fun f1 ℓ2 σ2 hb h1 h2=>?_) (Zd7 (show Zcq (body ℓ σ1) _=_ from h))
   exact k1 n v σ1 f1 ℓ2 σ2 (Nat.lt_succ_self n) ht hv hb h1 h2
set_option tactic.hygienic true in
theorem Zma {t:Expr}{body:List Stmt}{pos:Pos}{a:Ex}{b:Ss}(ht:PT K A env c cl t a)(hb:PSs K A T env c cl body b):PS K A T env c cl (.While t body [] pos) (.whl a b):=by
 intro ℓ σ f ℓf σf hev ρ s hr fo
 refine Zh3 fun Q E hQ=>?_
 refine wpAny_While (codeAny_whileLoop (fun n s'=>∃ρ' σ' ℓ',Wx (Zg cl a) (execs cl b) n ℓ' σ'=some (f,ℓf,σf)∧HR K ρ' σ' s'.heap∧StepX (Yl env) ρ s ρ' s'∧FO K A env c ℓ' ρ' s'.heap) (fun n s' hI=>?_) Qi ⟨ρ,σ,ℓ,hev,hr,StepX.refl _ _ _,fo⟩)
 revert hI;refine U7 fun ρ' σ' ℓ' hrun hr' st' fo'=>?_
 refine Zl9 hrun (fun v σ1 h1 h2 e1 e2 e3=>Zl6 (ht ℓ' σ' v σ1 false h1 h2 ρ' s' hr' fo') fun ρ1 q s1 g1 hq=>?_) fun m v σ1 f1 ℓ2 σ2 hm h1 h2 h3 h4 h5=>Zl6 (ht ℓ' σ' v σ1 true h1 h2 ρ' s' hr' fo') fun ρ1 q s1 g1 hq=>?_
 ·rw[hq]
  exact wpAny_execs_nil (hQ ρ1 .next s1 (e3▸g1.hr) (st'.then fo' (g1.st.toX _)) (e2▸fo'.step hr' g1.st) (e1▸trivial))
 ·rw[hq]
  have fo1:=fo'.step hr' g1.st
  have st1:=st'.then fo' (g1.st.toX _)
  refine wpAny_mono (hb ℓ' σ1 f1 ℓ2 σ2 h3 ρ1 s1 g1.hr fo1) (fun cf sC hq=>?_) fun u_ v_ hx=>?_
  ·revert hq;refine Q4 fun ρC hrC stC foC frC=>?_
   by_cases e:f1=.next
   ·rw[e] at frC
    cases cf with
    | next=>exact ⟨m,hm,ρC,σ2,ℓ2,h4 e,hrC,st1.then fo1 stC,foC⟩
    | _=>exact frC.elim
   ·have:=Zl7 (Q:=Q) (h5 e) (fun cf' hf'=>hQ ρC cf' sC ((h5 e).2.2▸hrC) (st1.then fo1 stC) ((h5 e).2.1▸foC) hf') frC
    cases cf with
    | next=>exact this.elim
    | cont=>exact this.elim
    | brk=>exact this
    | ret v=>exact this
  ·revert hx;refine rEA fun kk e u2_=>?_
   exact (Zjb (h5 (by rw[e];intro h;cases h)) e).elim
end
end Mini.Internal
namespace Mini.Internal
open PySem PyProof.Rows PySem.SeqAt PySem.W
variable {ρ ρ' ρ1:List Addr}{σ σ' σ1:H}{s s' s1:Shared}{h h':Heap}{ℓ ℓ':L}
theorem Za2 {k:Nat}{v:V}(j:Nat):∀l:List (Nat×V),(Zav l k v).lookup j=if j=k then some v else l.lookup j
 | []=>by
  show (match j == k with | true=>some v | false=>List.lookup j [])=_
  by_cases h:j=k
  ·subst h;simp
  ·have:(j == k)=false:=by simpa using h
   rw[this,if_neg h]
 | (b,w)::r=>by
  have ih:=Za2 j (k:=k) (v:=v) r
  by_cases hb:b=k
  ·subst hb
   show (if b=b then (b,v)::r else _).lookup j=_
   rw[if_pos rfl]
   by_cases h:j=b
   ·subst h;simp[List.lookup]
   ·have:(j == b)=false:=by simpa using h
    simp[List.lookup,this,h]
  ·show (if b=k then (b,v)::r else (b,w)::Zav r k v).lookup j=_
   rw[if_neg hb]
   by_cases h:j=b
   ·subst h;simp[List.lookup,hb]
   ·have:(j == b)=false:=by simpa using h
    simp only[List.lookup,this,ih]
theorem Zo4 {k:Nat}(h:k<2):atn k∈[atn 0,atn 1]:=by
 have:k=0∨k=1:=by lia
 rcases this with rfl | rfl <;> simp
theorem Zo5 {j k:Nat}(hj:j<2)(hk:k<2)(h:atn j=atn k):j=k:=by
 have a:j=0∨j=1:=by lia
 have b:k=0∨k=1:=by lia
 rcases a with rfl | rfl <;> rcases b with rfl | rfl
 ·rfl
 ·exact absurd h Zlp
 ·exact absurd h.symm Zlp
 ·rfl
structure EK (K:Kx)(T:Tabs):Prop where
 at_ : ∀ x k, T.excs.lookup x = some k → ∃ C B newId initId bmB mg, K.tyv k = .ref C ∧ ExcBaseFacts B newId initId bmB ∧ bmB.contains (.type "BaseException") = true ∧ OwnClsQ x C bmB newId mg K.h0
 sub:∀x t k,T.excs.lookup x=some t→Xp k t=true→(∃y,T.excs.lookup y=some k)∧∀C D,K.tyv k=.ref C→K.tyv t=.ref D→∃o cd,K.h0.get? C=some o∧o.data=.cls cd∧cd.mro.contains (.ref D)=true
section
variable {M:Model}{A:Around}{E:Value→Shared→Prop}{nm q nm' q':Str}{C N D N':Addr}{bs bm bs' bm':List Value}{hdct hdct':Bool}{sn sn':List Str}{sub sub':List Value}{ab ab':Bool}{col col':Option Bool}{dd dd':Option Addr}{k0 k1 k2 k3 k5 j0 j1 j2 j3 j5:Option Value}{newId newId':String}
theorem Zo6 {g:Array GenState}{d:Drawn}{t:Nat}{os:OsState}{e:Addr}{oe:Obj}{Q:Bool→Shared→Prop}
  (hC : h.get? C = some (excClassObj nm q C N bs bm hdct sn sub ab col dd k0 k1 k2 k3 k5 newId)) (hD : h.get? D = some (excClassObj nm' q' D N' bs' bm' hdct' sn' sub' ab' col' dd' j0 j1 j2 j3 j5 newId')) (he : h.get? e = some oe) (hcls : oe.cls = .ref C) (hbase : bm'.contains (.type "BaseException") = true)
  (hcD:(Value.ref C::bm).contains (.ref D)=true) (hq:Q true ⟨h,g,d,t,os⟩):wpAny M A (excMatches (.ref e) (.ref D)) Q E ⟨h,g,d,t,os⟩:=by
 have hcB : (Value.ref D :: bm').contains (.type "BaseException") = true := by rw [List.contains_cons, hbase, Bool.or_true]
 have f:=tc_notTuple
 unfold excMatches
 repeat (first | (with_reducible refine wpAny_loadPart_at he ?_;rw[hcls]) | with_reducible refine wpAny_loadPart_at hD ?_ | (with_reducible refine wpAny_isSubtype_exc hD ?_;rw[hcB]) | (with_reducible refine wpAny_isSubtype_exc hC ?_;rw[hcD]) | wp_step)
 exact hq
end
section
variable {K:Kx}{A:Around}{env:Env}{c:CEnv}{cl:Cl}{T:Tabs}
theorem Zo7 (W:WK K T cl.pg){o:Expr}{x:Str}{pos' pos:Pos}{e:Expr}{a b:Ex}{k:Nat}(hs:swapsWith e (some (.Attribute o x pos')) pos.line env=pure false)(hk:T.attrs.lookup x=some k)(h:PX K A env c e (Jm cl a))(ho:PE K A env c cl o b):PS K A T env c cl (.Assign [.Attribute o x pos'] e pos) (.aset b k a):=by
 intro ℓ σ f ℓ' σ' he ρ s hr fo
 refine plainObj_wpAny_Assign_Attribute (Zcy h he hr fo fun v σ1 ρ1 cv s1 h2 g1 rv=>?_) hs
 refine Ze4 (h2) fun y σ2 h3 h4=>?_
 refine Jx (h4) fun p hp e=>?_
 cases e
 refine byC fun hX=>?_;refine Ym (fun n cn hO2 i1 i2=>?_) (Zgr hp);obtain rfl:=hO2;refine hX ?_;clear hX
 refine wpAny_mono (ho _ σ1 _ σ2 h3 ρ1 s1 g1.hr (fo.step hr g1.st)) (fun co s2 hq=>?_) fun u_ v_ f=>f.elim
 revert hq;refine rEA fun ρ2 g2 rx=>?_
 refine byC fun hX=>?_;refine rA (fun hk2 hO1=>?_) (W.attr x k hk);obtain rfl:=hO1;refine hX ?_;clear hX
 refine byC fun hX=>?_;refine rEA (fun ax hO1 ha=>?_) (rx.objI rfl);obtain rfl:=hO1;refine hX ?_;clear hX
 refine Jg (fun C ad m ob e1 e2 e3 e4 e5 e6 e7 e8 e9=>?_) (g2.hr.inst i1 i2 ha)
 refine Zf0 (fun N mN w1 w2 w3 w4 w5 u7_=>?_) (W.cls cn C e1)
 refine Uw (fun nm q bs sn sub col dd k0 k1 k2' k3 k5 hC=>?_) w1.obj
 have hxC:ax≠C:=by rintro rfl;have:=g2.hr.new ax (List.mem_of_getElem? ha);rw[this] at hC;exact nn hC
 have g:=g1.trans g2
 have rv2:=rv.step g1.hr g2.st
 refine byC fun hX=>?_;obtain ⟨hh,gg,dr,t,os⟩:=s2;refine hX ?_;clear hX
 refine store_attr PySem.F.store_object (g2.hr.keep _ _ hC) (w1.keeps g2.hr.keep).ns w4 (w5 k hk2) (Zlz k) hxC e2 (fun h' tk' I' hk' hsame=>?_) (hw:=e8)
 refine Zrq (fun o1 q1 q2 q3 q4 q5=>?_) (hsame ob e4)
 have hoo:o1=ob:=by
  have q6:=q5 ad e5
  refine byC fun hX=>?_;obtain ⟨a1,a2,a3,a4⟩:=o1;refine hX ?_;clear hX
  refine byC fun hX=>?_;obtain ⟨b1,b2,b3,b4⟩:=ob;refine hX ?_;clear hX
  simp only at q2 q3 q4 q6 e5
  rw[q2,q3,q4,q6,e5]
 subst hoo
 have hkk:∀b o,b≠ad→hh.get? b=some o→h'.get? b=some o:=fun b o hb eb=>by
  by_cases hbx:b=ax
  ·subst hbx
   have eb':some o1=some o:=e4.symm.trans eb
   refine siE eb' ?_;exact q1
  ·exact hk' b o hbx (fun o0 dx z1 z2 => by
    have:some o1=some o0:=e4.symm.trans z1
    obtain rfl:=Option.some.inj this;rw[e5] at z2;refine siE z2 ?_;exact hb) eb
 revert I';refine Q4 fun o2 y1 y2 y3 y4=>?_
 have:some o1=some o2:=q1.symm.trans y1
 obtain rfl:=Option.some.inj this
 obtain ⟨d',y5,y6,y7⟩ : ∃d',o1.dict=some d'∧d'≠ax∧h'.Ns1 d' fun y=>if y=atn k then some cv else m y:=by
  rcases y4 with ⟨h0,_⟩ | h0
  ·rw[h0] at e5;exact nn e5
  ·exact h0
 rw[e5] at y5;obtain rfl:=Option.some.inj y5
 have hnt:=g2.hr.nt (List.mem_of_getElem? e3)
 have hor:OR K ρ2 h' ad (.ns (Zav p.2 k v)):=by
  refine ⟨_,y7,fun z hz=>?_,fun j w hj=>?_⟩
  ·by_cases hzk:z=atn k
   ·rw[hzk];exact Zo4 hk2
   ·rw[if_neg hzk] at hz;exact e8 z hz
  ·rw[Za2] at hj
   by_cases hjk:j=k
   ·subst hjk
    rw[if_pos rfl] at hj;refine siE hj ?_
    exact ⟨hk2,cv,if_pos rfl,rv2.but hnt hkk⟩
   ·rw[if_neg hjk] at hj
    refine Zfz (fun hj2 cw z1 z2=>?_) (e9 j w hj)
    exact ⟨hj2,cw,by rw[if_neg fun e=>hjk (Zo5 hj2 hk2 e)];exact z1,z2.but hnt hkk⟩
 have st3:Step ρ2 ⟨hh,gg,dr,t,os⟩ ρ2 ⟨h',gg,dr,tk',os⟩:=Step.set (s:=⟨hh,gg,dr,t,os⟩) (List.mem_of_getElem? e3) hkk
 have st:=g.st.trans st3
 exact ⟨ρ2,g2.hr.setO i2 e3 hor hkk,st.toX _,fo.step hr st,trivial⟩
theorem Zmb (G:GK K T)(X:EK K T)(hh:A.handled=none){x:Str}{np cpos pos:Pos}{e1:Expr}{v1:V}{k:Nat}(hg:Y5 c x=true)(hk:T.excs.lookup x=some k)(hc:Xy [e1])(h1:PEs K A env c cl [e1] (.cons (.lit v1) .nil)) :
  PS K A T env c cl (.Raise (some (.Call (.Name x np) [e1] [] cpos)) none pos) (.raise k):=by
 intro ℓ σ f ℓ' σ' he ρ s hr fo
 refine p3E he ?_
 refine Xm (fun C B newId initId bmB mg' hC FB hbB O=>?_) (X.at_ x k hk)
 refine Uo (fun bm N nm q bs hdct sn sub ab col dd k0 k1 k2 k3 k5 mN hCo hN hq TQ=>?_) O.obj
 refine wpAny_Raise_call_subT FB (C:=C) (N:=N) (mN:=mN) (nm:=nm) (q:=q) (bs:=bs) (bm:=bm) (hdct:=hdct) (sn:=sn) (sub:=sub) (ab:=ab) (col:=col) (dd:=dd) (k0:=k0) (k1:=k1) (k2:=k2) (k3:=k3) (k5:=k5) (TQ.tail.hasType hbB) hh (by rw[Yt hc];rfl) (hq _ (.head _)) ?_
 have fin : wpAny K.M A (evalArgs (.ref C) true (backTo cpos (starEach [e1] env)) [])
   (fun a s₂=>a.kw=[]∧a.pos.length≤sizeLine∧s₂.heap.get? C=some (excClassObj nm q C N bs bm hdct sn sub ab col dd k0 k1 k2 k3 k5 newId)∧s₂.heap.Ns N mN∧OwnTail s₂.heap bmB bm∧
    ∀h' e,Heap.MadeExcOf s₂.heap h' e (.ref C) a.pos→∃j,Fl.exc k=.exc j∧Up K A T env c ρ s σ j ℓ (.ref e) { s₂ with heap:=h' }) (fun ev s'=>∃j,Fl.exc k=.exc j∧Up K A T env c ρ s σ j ℓ ev s') s:=by
  rw[Yt hc]
  refine Uy (Zcx (pos:=cpos) hc h1 (ℓ:=ℓ) (σ:=σ) (σ1:=σ) (vs:=[v1]) rfl hr fo fun ρ1 cvs s1 g1 rvs=>?_)
  have hl:=rvs.length
  refine ⟨rfl,(by show cvs.length≤sizeLine;rw[← hl,sizeLine_eq];exact Nat.le_of_ble_eq_true rfl),g1.hr.keep _ _ hCo,hN.keeps g1.hr.keep,TQ.tail.keeps g1.hr.keep,fun h' e hm=>⟨k,rfl,g1.st.gens,g1.st.os,ρ1,fun outer hf=>.inr ⟨fun h0=>(by rw[h0] at hk;exact nn hk),s1.heap,e,_,rfl,fo.step hr g1.st,g1.hr,(g1.st.toX _).heap,hC▸hm⟩⟩⟩
 exact J8 hr fo hg (G.ex x k hk) ⟨hC,fin⟩
theorem FO.mark (hd:Option Value)(x:FO K A env c ℓ ρ h):FO K (A.mark hd) env c ℓ ρ h:=⟨x.kind,x.names,x.glob,x.blts,x.ns,x.cell,x.inj,x.capart,x.lnew,x.free,x.lt,x.ff,x.cnew⟩
theorem FO.unmark {hd:Option Value}(x:FO K (A.mark hd) env c ℓ ρ h):FO K A env c ℓ ρ h:=⟨x.kind,x.names,x.glob,x.blts,x.ns,x.cell,x.inj,x.capart,x.lnew,x.free,x.lt,x.ff,x.cnew⟩
theorem Zo8 (X:EK K T){x:Str}{k j:Nat}(hk:T.excs.lookup x=some k)(hsub:Xp j k=true)(keep:∀b o,K.h0.get? b=some o→s.heap.get? b=some o){e:Addr}{oe:Obj}(hoe:s.heap.get? e=some oe)(hoec:oe.cls=K.tyv j)
  {Q:Bool→Shared→Prop}{E:Value→Shared→Prop}{A:Around} (hR:Q true s):wpAny K.M A (excMatches (.ref e) (K.tyv k)) Q E s:=by
 refine rA (fun hO0 hmt=>?_) (X.sub x k j hk hsub);revert hO0;refine rE fun yn hyn=>?_
 refine Xm (fun Cj Bj newIdj initIdj bmBj mgj hCj FBj hbBj Oj=>?_) (X.at_ yn j hyn)
 refine Xm (fun Ck Bk newIdk initIdk bmBk mgk hCk FBk hbBk Ok=>?_) (X.at_ x k hk)
 refine U5 (fun bmj Nj nmj qj bsj hdj snj subj abj colj ddj a0 a1 a2 a3 a5 mNj oj u18_=>?_) Oj.obj
 refine Uo (fun bmk Nk nmk qk bsk hdk snk subk abk colk ddk b0 b1 b2 b3 b5 mNk ok u18_ u19_ TQk=>?_) Ok.obj
 refine Ym (fun om cdm m1 m2 m3=>?_) (hmt Cj Ck hCj hCk)
 rw[oj] at m1;cases m1;cases m2
 rw[hCj] at hoec
 rw[hCk]
 exact Zo6 (keep _ _ oj) (keep _ _ ok) hoe hoec (TQk.tail.hasType hbBk) m3 hR
theorem Zku {y:Y}{r:Fl×L×H}(h:Zi1 y=some r):y=some r∧∀i,r.1≠.exc i:=by
 cases y with
 | none=>exact nn h
 | some z=>
  refine byC fun hX=>?_;obtain ⟨f,ℓ,σ⟩:=z;refine hX ?_;clear hX
  cases f with
  | exc i=>exact nn h
  | _=>refine siE h ?_;exact ⟨rfl,fun i e=>by cases e⟩
theorem Zmc (G:GK K T){A:Around}{env:Env}{c:CEnv}{x:Str}{np:Pos}{k:Nat}(hg:Y5 c x=true)(hk:T.excs.lookup x=some k)(hr:HR K ρ σ s.heap)(fo:FO K A env c ℓ ρ s.heap)(Q:Value→Shared→Prop)(E:Value→Shared→Prop)
  (hq:Q (K.tyv k) s):wpAny K.M A (eval (.Name x np) env) Q E s:=J8 hr fo hg (G.ex x k hk) hq
theorem Zh4 {y:Y}{k:Nat}{g:L→H→Y}{f:Fl}(h:Zcr y k g=some (f,ℓ',σ')):(y=some (f,ℓ',σ')∧∀i,f≠.exc i)∨∃j ℓ1 σ1,y=some (.exc j,ℓ1,σ1)∧Xp j k=true∧g ℓ1 σ1=some (f,ℓ',σ')∧∀i,f≠.exc i:=by
 cases y with
 | none=>exact nn h
 | some z=>
  refine byC fun hX=>?_;obtain ⟨f1,ℓ1,σ1⟩:=z;refine hX ?_;clear hX
  cases f1 with
  | exc j=>
   refine Ziy ((show (if Xp j k=true then Zi1 (g ℓ1 σ1) else .none)=some (f,ℓ',σ') from h)) fun hsub he=>?_
   refine rA (fun a b=>?_) (Zku he)
   exact .inr ⟨j,ℓ1,σ1,rfl,hsub,a,b⟩
  | _=>refine p3E h ?_;exact .inl ⟨rfl,fun i e=>by cases e⟩
theorem Zgw {A:Around}{env:Env}{e0:Addr}{cv:Value}{t:Expr}{h0:Stmt}{suite:List Stmt}{p1:Pos}{Q:Flow→Shared→Prop}{E:Value→Shared→Prop} 
  (hl:∀(Q:Value→Shared→Prop) (E:Value→Shared→Prop),Q cv s→wpAny K.M (A.mark (some (.ref e0))) (eval t env) Q E s)
  (hm:∀(Q:Bool→Shared→Prop) (E:Value→Shared→Prop),Q true s→wpAny K.M (A.mark (some (.ref e0))) (excMatches (.ref e0) cv) Q E s)
  (hr:∀(E:Value→Shared→Prop),wpAny K.M (A.mark (some (.ref e0))) (setFlight (.ref e0) none) (fun u_ s₁=>wpAny K.M (A.mark (some (.ref e0))) (PySem.execs (h0::suite) env) Q (fun u_ v_=>False) s₁) E s) :
  wpAny K.M A (handleBy (.ref e0) env [.ExceptHandler (some t) none (h0::suite) p1]) Q E s :=
 wpAny_handleBy_cons (codeAny_handlers_test (hl _ _ (hm _ _ (codeAny_handlers_suite (wpAny_mono (hr _) (fun u_ v_ h=>wpAny_mono h (fun u_ v_ q=>q) fun u_ v_ f=>f.elim) fun u_ v_ q=>q))))) (by intro q;cases q)
set_option tactic.hygienic true in
theorem Zsm (G:GK K T)(X:EK K T)(hfr:∃outer,A.frames=some (env::outer)){b suite:List Stmt}{h0:Stmt}{t:Expr}{pos p1 np:Pos}{x:Str}{k:Nat}{xb yb:Ss}(ht:t=.Name x np)(hg:Y5 c x=true)(hk:T.excs.lookup x=some k)
  (hb:PSs K A (Zlm T) env c cl b xb) (hs:∀ev,PSs K (A.mark (some ev)) (quiet T) env c cl (h0::suite) yb):PS K A T env c cl (.Try b [.ExceptHandler (some t) none (h0::suite) p1] [] [] pos) (.try_ xb k yb):=by
 intro ℓ σ f ℓ' σ' he ρ s hr fo
 subst ht
 have he:=Zh4 (show Zcr (execs cl xb ℓ σ) k (fun ℓ1 σ1=>execs cl yb ℓ1 σ1)=some (f,ℓ',σ') from he)
 revert hfr;refine rE fun outer hfr=>?_
 refine Ziv (fun u0_ L u2_ hf u4_=>?_) (fo.ff _ hfr env List.mem_cons_self)
 refine Zh3 fun Q E hQ=>wpAny_Try_except ?_
 rcases he with ⟨h1,hnx⟩ | ⟨j,ℓ1,σ1,h1,hsub,hyb,hnx⟩
 ·refine wpAny_mono (hb ℓ σ f ℓ' σ' h1 ρ s hr fo) (fun cf s1 hq=>hq.elim fun ρ1 q=>?_) fun ev s1 hq=>hq.elim fun i hi=>absurd hi.1 (hnx i)
  have hq:=hQ ρ1 cf s1 q.1 q.2.1 q.2.2.1 q.2.2.2
  cases cf with
  | next=>exact wpAny_execs_nil hq
  | _=>exact hq
 ·refine wpAny_mono (hb ℓ σ _ ℓ1 σ1 h1 ρ s hr fo) (fun cf s1 hq=>hq.elim fun u_ q=>by cases cf <;> exact False.elim q.2.2.2) fun ev s1 hq=>?_
  revert hq;refine Zlg fun i hi hgens hos ρ1 hu=>?_
  obtain rfl:j=i:=by cases hi;rfl
  rcases hu outer hfr with fl | ⟨h0,_⟩
  rotate_left
  ·exact absurd rfl h0
  revert fl;refine Xn fun G0 B tt e hO4 hP hrG stG hB hB0 hus fw=>?_;refine eqS hO4 ?_
  have back:∀{h6:Heap},G0.UpToSlots h6→Heap.FlyingW B (env::outer) e (K.tyv j) (.ref tt) h6→HR K ρ1 σ1 h6∧StepX (Yl env) ρ s ρ1 { s1 with heap:=h6 }∧FO K A env c ℓ1 ρ1 h6:=fun hs6 hf6=>
   Fly.good (s1:={ s1 with heap:=_ }) (⟨G0,B,tt,e,rfl,hP,hrG,stG,hB,hB0,hs6,hf6⟩ : Fly K (Yl env) ρ s ρ1 σ1 (env::outer) (K.tyv j) (FO K A env c ℓ1 ρ1) (.ref e) _) hgens hos
  refine wpAny_looks_onW hfr hf fw fun h4 hheld4 hsm4=>wpAny_landsW hheld4 fun h5 hfl5 hsm5=>?_
  have hus5:=(hus.trans hsm4).trans hsm5
  have b5:=back hus5 hfl5
  refine Zgw (cv:=K.tyv k) (s:={ s1 with heap:=h5 }) (Zmc G hg hk b5.1 (b5.2.2.mark _)) (fun Q E hR=>hfl5.there.elim fun oe ho=>Zo8 X hk hsub (s:={ s1 with heap:=h5 }) b5.1.keep ho.1 ho.2 hR) fun E=>lands_againW (s:={ s1 with heap:=h5 }) hfl5 fun h6 hfl6 hsm6=>?_
  have b6:=back (hus5.trans hsm6) hfl6
  exact wpAny_mono (hs (.ref e) ℓ1 σ1 f ℓ' σ' hyb ρ1 { s1 with heap:=h6 } b6.1 (b6.2.2.mark _)) (fun cf s7 hq=>hq.elim fun ρ7 q=>hQ ρ7 cf s7 q.1 (b6.2.1.then b6.2.2 q.2.1) q.2.2.1.unmark q.2.2.2) fun ev s7 hq=>hq.elim fun i hi=>absurd hi.1 (hnx i)
end
noncomputable def Zfc (K:Kx)(A:Around):Prop :=
 ∀(σ σ':H) (vs:List V) (v:V),Wa .sorted vs σ=some (v,σ')→∀(ρ:List Addr) (s:Shared) (cas:List Value),HR K ρ σ s.heap→RVs K ρ s.heap vs cas→TR K A (call (Zbj .sorted) cas) ρ s σ' fun ρ' cv s'=>RV K ρ' s'.heap v cv
structure HX (K:Kx)(A:Around)(cl:Cl)(T:Tabs):Prop where
 G:GK K T
 ty:TyOK K
 hu:A.units+16<cLine
 on : T.loops = true → A.handled = none ∧ CallB K A cl ∧ ∀ C vs, Ze8 K (A.under (.builtin "type.__call__" ⟨.ref C :: vs, []⟩)) cl
 hd:∀x b,T.blts.lookup x=some b→b≠.isinstance→b≠.int→A.handled=none
 sort:∀x,T.blts.lookup x=some .sorted→Zfc K A
 wk:WK K T cl.pg
 ek:EK K T
noncomputable def J3 {α β:Type}(x:Option α)(f:(a:α)→x=some a→Option β):Option β:=match x,f with
 | .none,_=>.none
 | some a,f=>f a rfl
noncomputable def ifH {β:Type}(b:Bool)(f:b=true→Option β):Option β:=match b,f with
 | false,_=>.none
 | true,f=>f rfl
structure QE (K:Kx)(A:Around)(T:Tabs)(env:Env)(c:CEnv)(cl:Cl)(e:Expr)(a:Ex):Prop where
 pe:PE K A env c cl e a
 pt:PT K A env c cl e a
 px:PX K A env c e (Jm cl a)
 pc:PX K A env c e (Wr cl a)
 pa:∀x p pos i,Um c x=some i→PS K A T env c cl (.Assign [.Name x p] e pos) (.asg (.one i) a)
noncomputable def CE (T:Tabs)(c:CEnv)(e:Expr):Type:={ x:Ex×Nat×Option V // (Plain e x.2.1∧∀v,x.2.2=some v→x.1=.lit v)∧∀(K:Kx) (A:Around) (cl:Cl) (env:Env),HX K A cl T→QE K A T env c cl e x.1 }
noncomputable def CEs (T:Tabs)(c:CEnv)(es:List Expr):Type:={ a:Es // Xy es∧∀(K:Kx) (A:Around) (cl:Cl) (env:Env),HX K A cl T→PEs K A env c cl es a∧PF K A env c cl es a∧PA K A env c cl es a }
noncomputable def CB (T:Tabs)(c:CEnv)(op:BoolOp)(es:List Expr):Type:={ a:Ex // (2≤es.length→∀cl,(Jm cl a=fun ℓ σ=>noX (Zg cl a ℓ σ))∧Wr cl a=fun ℓ σ=>noX (Zg cl a ℓ σ))∧∀(K:Kx) (A:Around) (cl:Cl) (env:Env),HX K A cl T→PB K A env c cl op es a }
noncomputable def CC (T:Tabs)(c:CEnv)(ops:List CmpOp)(es:List Expr):Type:={ r:Ch // (∀env,markedEach ops es (evalEach es env)=evalEach es env)∧∀(K:Kx) (A:Around) (cl:Cl) (env:Env),HX K A cl T→PC K A env c cl ops es r }
noncomputable def CO (T:Tabs)(c:CEnv)(e:Option Expr):Type:={ a:Oe // ∀(K:Kx) (A:Around) (cl:Cl) (env:Env),HX K A cl T→PO K A env c cl e a }
noncomputable def CI (T:Tabs)(c:CEnv)(e:Expr):Type:={ it:It // (∀env v,foldedSetIterable e env v=pure v)∧∀(K:Kx) (A:Around) (cl:Cl) (env:Env),HX K A cl T→PI K A env c cl e it }
noncomputable def GQ (K:Kx)(A:Around)(env:Env)(c:CEnv)(cl:Cl)(sc:Scope)(gens:List Comprehension)(g:Nat×It×Es):Prop :=
 ∃y px iter ifs,gens=[⟨.Name y px,iter,ifs,0⟩]∧(Jb c sc).names.lookup y=some .local∧Um (Jb c sc) y=some g.1∧PI K A env c cl iter g.2.1∧(∀v,foldedSetIterable iter env v=pure v)∧∀cenv,PF K A cenv (Jb c sc) cl ifs g.2.2
noncomputable def CG (T:Tabs)(c:CEnv)(sc:Scope)(gens:List Comprehension):Type:={ g:Nat×It×Es // ∀(K:Kx) (A:Around) (cl:Cl) (env:Env),HX K A cl T→GQ K A env c cl sc gens g }
section
variable {T:Tabs}{c:CEnv}{e:Expr}{K:Kx}{A:Around}{cl:Cl}{env:Env}
noncomputable def CE.a (x:CE T c e):Ex:=x.1.1
theorem CE.pl (x:CE T c e):Plain e x.1.2.1:=x.2.1.1
theorem CE.q (x:CE T c e)(hx:HX K A cl T):QE K A T env c cl e x.a:=x.2.2 K A cl env hx
theorem CE.li (x:CE T c e){v:V}(h:x.1.2.2=some v):x.a=.lit v:=x.2.1.2 v h
theorem CE.p (x:CE T c e)(hx:HX K A cl T):PE K A env c cl e x.a:=(x.q hx).pe
theorem CE.t (x:CE T c e)(hx:HX K A cl T):PT K A env c cl e x.a:=(x.q hx).pt
theorem QE.u {a:Ex}{f:Nat}(pl:Plain e f)(hf:f≠1)(pe:PE K A env c cl e a)(pt:PT K A env c cl e a)(px:PX K A env c e (Jm cl a))(pc:PX K A env c e (Wr cl a)):QE K A T env c cl e a :=
 ⟨pe,pt,px,pc,fun x p pos i hi=>Zl4 (pl.sw hf _ _ _) hi px⟩
noncomputable def CE.t2 (a:Ex)(f:Nat)(pl:Plain e f)(hf:f≠1)(h1:∀cl,Jm cl a=fun ℓ σ=>noX (Zg cl a ℓ σ))(h2:∀cl,Wr cl a=fun ℓ σ=>noX (Zg cl a ℓ σ))(h:∀(K:Kx) (A:Around) (cl:Cl) (env:Env),HX K A cl T→PE K A env c cl e a∧PT K A env c cl e a):Option (CE T c e) :=
 some ⟨(a,f,.none),⟨pl,fun u_ e=>nn e⟩,fun K A cl env hx=>.u pl hf (h K A cl env hx).1 (h K A cl env hx).2 (h1 cl▸Zb1 (h K A cl env hx).1) (h2 cl▸Zb1 (h K A cl env hx).1)⟩
noncomputable def Tst (e:Expr):Prop:=∀env w,isTrue e env w=(do let v ← w;standAt e.pos;holding [v] (truthy v))
noncomputable def CE.n (a:Ex)(f:Nat)(pl:Plain e f)(hf:f≠1)(hw:Tst e)(h1:∀cl,Jm cl a=fun ℓ σ=>noX (Zg cl a ℓ σ))(h2:∀cl,Wr cl a=fun ℓ σ=>noX (Zg cl a ℓ σ))(h:∀(K:Kx) (A:Around) (cl:Cl) (env:Env),HX K A cl T→PE K A env c cl e a):Option (CE T c e) :=
 CE.t2 a f pl hf h1 h2 fun K A cl env hx=>⟨h K A cl env hx,Qj (h K A cl env hx) (hw env)⟩
noncomputable def CI.of (x:CE T c e):CI T c e:=⟨.ex x.a,x.pl.fold,fun u_ v_ w_ x_ hx=>Zt3 (x.p hx)⟩
noncomputable def Zsn (T:Tabs)(c:CEnv)(k:Const)(n:Nat)(p:Pos):Option (CE T c (.Constant k n p)):=J3 (Zln k) fun v h=>
 have pl:Plain (.Constant k n p) 0:=⟨fun u_ v_=>rfl,fun u_=>rfl,fun u_ v_=>rfl,fun u_ v_ w_ x_=>rfl,fun u_ v_ w_ x_=>rfl,nofun⟩
 some ⟨(.lit v,0,some v),⟨pl,fun u_ e=>congrArg Ex.lit (Option.some.inj e)⟩,fun K A cl env hx=>.u pl nofun (Zay h) (Qj (Zay h) fun u_=>rfl) (Zb1 (Zay h)) (Zb1 (Zay h))⟩
noncomputable def Zt5 (T:Tabs)(c:CEnv)(x:Str)(p:Pos):Option (CE T c (.Name x p)) :=
 have pl:Plain (.Name x p) 0:=⟨fun u_ v_=>rfl,fun u_=>rfl,fun u_ v_=>rfl,fun u_ v_ w_ x_=>rfl,fun u_ v_ w_ x_=>rfl,nofun⟩
 have hw:Tst (.Name x p):=fun u_ v_=>rfl
 (J3 (Um c x) fun i h=>CE.n (.var i) 0 pl nofun hw (fun u_=>rfl) (fun u_=>rfl) fun u_ v_ w_ x_ y_=>Zrt h).or (ifH (Y5 c x) fun hg=>
  (J3 (T.tys.lookup x) fun t ht=>CE.n (.ty t) 0 pl nofun hw (fun u_=>rfl) (fun u_=>rfl) fun u_ v_ w_ x_ hx=>Zqh hg (hx.G.ty x t ht)).or
  (J3 (T.excs.lookup x) fun t ht=>CE.n (.ty t) 0 pl nofun hw (fun u_=>rfl) (fun u_=>rfl) fun u_ v_ w_ x_ hx=>Zqh hg (hx.G.ex x t ht)))
noncomputable def Zw9 {l r:Expr}(op:Operator)(p:Pos)(x:Option (CE T c l))(y:Option (CE T c r)):Option (CE T c (.BinOp l op r p)):=x.bind fun x=>J3 (cOp op) fun o ho=>y.bind fun y=>
 CE.n (.bin o x.a y.a) 0 ⟨fun u_ v_=>rfl,fun u_=>rfl,fun u_ v_=>rfl,fun u_ v_ w_ x_=>rfl,fun u_ v_ w_ x_=>rfl,nofun⟩ nofun (fun u_ v_=>rfl) (fun u_=>rfl) (fun u_=>rfl) fun u_ v_ w_ x_ hx=>Zrw ho (x.p hx) (y.p hx)
noncomputable def Zxa {x:Expr}(p:Pos)(y:Option (CE T c x)):Option (CE T c (.UnaryOp .USub x p)):=y.bind fun y=>
 CE.n (.neg y.a) 0 ⟨fun u_ v_=>rfl,fun u_=>rfl,fun u_ v_=>rfl,fun u_ v_ w_ x_=>rfl,fun u_ v_ w_ x_=>rfl,nofun⟩ nofun (fun u_ v_=>rfl) (fun u_=>rfl) (fun u_=>rfl) fun u_ v_ w_ x_ hx=>Zrx (y.p hx)
noncomputable def Zxb {x:Expr}(p:Pos)(y:Option (CE T c x)):Option (CE T c (.UnaryOp .Not x p)):=y.bind fun y=>
 CE.t2 (.not y.a) 0 ⟨fun u_ v_=>rfl,fun u_=>rfl,fun u_ v_=>rfl,fun u_ v_ w_ x_=>rfl,fun u_ v_ w_ x_=>rfl,nofun⟩ nofun (fun u_=>rfl) (fun u_=>rfl) fun u_ v_ w_ x_ hx=>⟨Zry (y.p hx),Zrz (y.t hx)⟩
noncomputable def Zt6 {op:BoolOp}{vs:List Expr}(p:Pos)(y:Option (CB T c op vs)):Option (CE T c (.BoolOp op vs p)):=ifH (Nat.ble 2 vs.length) fun hl=>y.bind fun y=>
 CE.t2 y.1 0 ⟨fun u_ v_=>rfl,fun u_=>rfl,fun u_ v_=>rfl,fun u_ v_ w_ x_=>rfl,fun u_ v_ w_ x_=>rfl,nofun⟩ nofun (fun cl=>(y.2.1 (Nat.le_of_ble_eq_true hl) cl).1) (fun cl=>(y.2.1 (Nat.le_of_ble_eq_true hl) cl).2) fun K A cl env hx=>⟨(y.2.2 K A cl env hx).1 p,(y.2.2 K A cl env hx).2⟩
noncomputable def Zxc {l:Expr}{ops:List CmpOp}{cs:List Expr}(p:Pos)(x:Option (CE T c l))(r:Option (CC T c ops cs)):Option (CE T c (.Compare l ops cs p)):=x.bind fun x=>r.bind fun r=>
 CE.t2 (.cmp x.a r.1) 0 ⟨fun u_ v_=>rfl,fun u_=>rfl,fun u_ v_=>rfl,fun u_ v_ w_ x_=>rfl,fun u_ v_ w_ x_=>rfl,nofun⟩ nofun (fun u_=>rfl) (fun u_=>rfl) fun K A cl env hx=>⟨Zr4 (r.2.1 env) (x.p hx) (r.2.2 K A cl env hx),Zr5 (r.2.1 env) (x.p hx) (r.2.2 K A cl env hx)⟩
noncomputable def kIf {t b o:Expr}(p:Pos)(x:Option (CE T c t))(y:Option (CE T c b))(z:Option (CE T c o)):Option (CE T c (.IfExp t b o p)):=x.bind fun x=>y.bind fun y=>z.bind fun z=>
 CE.t2 (.ife x.a y.a z.a) 0 ⟨fun u_ v_=>rfl,fun u_=>rfl,fun u_ v_=>rfl,fun u_ v_ w_ x_=>rfl,fun u_ v_ w_ x_=>rfl,nofun⟩ nofun (fun u_=>rfl) (fun u_=>rfl) fun u_ v_ w_ x_ hx=>⟨Zr0 (x.t hx) (y.p hx) (z.p hx),Zr1 (x.t hx) (y.t hx) (z.t hx)⟩
noncomputable def Zxd {es:List Expr}(k:Nat)(p:Pos)(x:Option (CEs T c es)):Option (CE T c (.Tuple es k p)):=x.bind fun x=>
 CE.n (.tup x.1) 0 ⟨fun u_ v_=>rfl,fun u_=>rfl,fun u_ v_=>rfl,fun u_ v_ w_ x_=>rfl,fun u_ v_ w_ x_=>rfl,nofun⟩ nofun (fun u_ v_=>rfl) (fun u_=>rfl) (fun u_=>rfl) fun K A cl env hx=>Zr6 (x.2.2 K A cl env hx).1
noncomputable def Zxe {es:List Expr}(p:Pos)(x:Option (CEs T c es)):Option (CE T c (.List es p)):=x.bind fun x=>
 CE.n (.lst x.1) 0 ⟨fun u_ v_=>rfl,fun u_=>rfl,fun u_ v_=>rfl,fun u_ v_ w_ x_=>rfl,fun u_ v_ w_ x_=>rfl,nofun⟩ nofun (fun u_ v_=>rfl) (fun u_=>rfl) (fun u_=>rfl) fun K A cl env hx=>Zr7 (x.2.2 K A cl env hx).1
noncomputable def Zxf {v:Expr}{lo hi st:Option Expr}(r p:Pos)(x:Option (CE T c v))(a:Option (CO T c lo))(b:Option (CO T c hi))(d:Option (CO T c st)):Option (CE T c (.Subscript v (.Slice lo hi st r) p)):=x.bind fun x=>a.bind fun a=>b.bind fun b=>d.bind fun d=>
 CE.n (.slc x.a a.1 b.1 d.1) 0 ⟨fun u_ v_=>rfl,fun u_=>rfl,fun u_ v_=>rfl,fun u_ v_ w_ x_=>rfl,fun u_ v_ w_ x_=>rfl,nofun⟩ nofun (fun u_ v_=>rfl) (fun u_=>rfl) (fun u_=>rfl) fun K A cl env hx=>Zsa (x.p hx) (a.2 K A cl env hx) (b.2 K A cl env hx) (d.2 K A cl env hx)
noncomputable def Zxg {v i:Expr}(p:Pos)(x:Option (CE T c v))(y:Option (CE T c i)):Option (CE T c (.Subscript v i p)):=x.bind fun x=>y.bind fun y=>
 CE.n (.idx x.a y.a) 3 ⟨fun u_ v_=>rfl,fun u_=>rfl,fun u_ v_=>rfl,fun u_ v_ w_ x_=>rfl,fun u_ v_ w_ x_=>rfl,fun u_ v_ w_ x_ y_ z_=>⟨rfl,rfl⟩⟩ nofun (fun u_ v_=>rfl) (fun u_=>rfl) (fun u_=>rfl) fun u_ v_ w_ x_ hx=>Zr8 (x.p hx) (y.p hx)
theorem QE.comp (hx:HX K A cl T){elt:Expr}{gens:List Comprehension}{sc:Scope}{p:Pos}{a:Ex}{g:Nat×It×Es}(hok:(Ze5 c sc&&T.loops)=true)(hg:GQ K A env c cl sc gens g)(he:∀cenv,PE K A cenv (Jb c sc) cl elt a):QE K A T env c cl (.ListComp elt gens sc p) (.comp a g.1 g.2.1 g.2.2):=by
 revert hg;refine Zad fun y px iter ifs hO h1 h2 h3 h4 h5=>?_;refine eqS hO ?_
 have hh:=(hx.on (W2 hok)).1
 have ok:=Zkm (Ud hok)
 have pe:PE K A env c cl (.ListComp elt [⟨.Name y px,iter,ifs,0⟩] sc p) (.comp a g.1 g.2.1 g.2.2):=Zoq hh ok h4 h2 h1 h3 he h5
 refine ⟨pe,Qj pe fun u_=>rfl,Zb1 pe,Zb1 pe,fun x q pos i hi=>?_⟩
 have hs:∃b,swapsWith (.ListComp elt [⟨.Name y px,iter,ifs,0⟩] sc p) (some (.Name x q)) pos.line env=pure b:=⟨_,rfl⟩
 refine rE (fun b hb=>?_) hs
 cases b with
 | false=>exact Zl4 hb hi (Zb1 pe)
 | true=>exact Zgv hh ok h4 h2 h1 h3 he h5 hb hi
noncomputable def Zt7 {elt:Expr}{gens:List Comprehension}{sc:Scope}(p:Pos)(g:Option (CG T c sc gens))(e:Option (CE T (Jb c sc) elt)):Option (CE T c (.ListComp elt gens sc p)):=g.bind fun g=>e.bind fun e=>ifH (Ze5 c sc&&T.loops) fun hok=>
 some ⟨(.comp e.a g.1.1 g.1.2.1 g.1.2.2,1,.none),⟨⟨fun u_ v_=>rfl,fun u_=>rfl,fun u_ v_=>rfl,fun h=>absurd rfl h,fun u_ v_ w_ x_=>rfl,nofun⟩,fun u_ e=>nn e⟩,fun K A cl env hx=>.comp hx hok (g.2 K A cl env hx) fun u_=>e.p hx⟩
theorem Wt (f:Expr)(as:List Expr)(p:Pos):Plain (.Call f as [] p) 2:=⟨fun u_ v_=>rfl,fun u_=>rfl,fun u_ v_=>rfl,fun u_ v_ w_ x_=>rfl,fun h=>absurd rfl h,nofun⟩
theorem W7 (f:Expr)(as:List Expr)(p:Pos):Tst (.Call f as [] p):=fun u_ v_=>rfl
theorem Zo9 (hx:HX K A cl T){f:Str}{as:List Expr}{q p:Pos}{n:Nat}(hg:Y5 c f=true)(hl:T.loops=true)(hn:T.cls.lookup f=some n)(h0:as.isEmpty=true):PE K A env c cl (.Call (.Name f q) as [] p) (.new n .nil) :=
 eqS (P:=fun as=>PE K A env c cl (.Call (.Name f q) as [] p) (.new n .nil)) (List.isEmpty_iff.mp h0) (Zse hx.G hx.wk hg hn (hx.on hl).2.2)
noncomputable def Zt8 {as:List Expr}(f:Str)(q p:Pos)(xs:Option (CEs T c as)):Option (CE T c (.Call (.Name f q) as [] p)):=xs.bind fun xs=>ifH (Y5 c f) fun hg=>
 ((ifH T.loops fun hl=>J3 (T.fns.lookup f) fun n hn=>some ⟨(.call n xs.1,2,.none),⟨Wt _ _ _,fun u_ e=>nn e⟩,fun K A cl env hx=>
  have pc:=Zox hx.G (hx.on hl).2.1 hg hn xs.2.1 (xs.2.2 K A cl env hx).1
  .u (Wt _ _ _) nofun (Zgs pc) (Qj (Zgs pc) (W7 _ _ _ _)) (Zow hx.G (hx.on hl).2.1 hg hn xs.2.1 (xs.2.2 K A cl env hx).2.2) pc⟩).or
 (J3 (T.blts.lookup f) fun b hb=>CE.n (.blt b xs.1) 2 (Wt _ _ _) nofun (W7 _ _ _) (fun u_=>rfl) (fun u_=>rfl) fun K A cl env hx=>Zsc hx.G hx.ty (hx.hd f b hb) (fun e=>e▸hx.sort f (e▸hb)) hg hb xs.2.1 (xs.2.2 K A cl env hx).1)).or
 (ifH T.loops fun hl=>J3 (T.cls.lookup f) fun n hn=>ifH as.isEmpty fun h0=>CE.n (.new n .nil) 2 (Wt _ _ _) nofun (W7 _ _ _) (fun u_=>rfl) (fun u_=>rfl) fun u_ v_ w_ x_ hx=>Zo9 hx hg hl hn h0)
noncomputable def Zt9 {o:Expr}{as:List Expr}(m:Str)(q p:Pos)(x:Option (CE T c o))(xs:Option (CEs T c as)):Option (CE T c (.Call (.Attribute o m q) as [] p)):=x.bind fun x=>xs.bind fun xs=>ifH (q.endLine == p.line) fun hl=>ifH (x.1.2.1 != 2) fun hc=>ifH (Nat.blt as.length 20) fun h20=>
 have hb:=x.pl.base (bne_iff_ne.mp hc)
 ((ifH (m == Za1 .append) fun hm=>CE.n (.mth .append x.a xs.1) 2 (Wt _ _ _) nofun (W7 _ _ _) (fun u_=>rfl) (fun u_=>rfl) fun K A cl env hx=>Zly hm hl (hb env) (Nat.le_of_ble_eq_true h20) xs.2.1 (x.p hx) (xs.2.2 K A cl env hx).1).or
 (ifH (m == Za1 .pop) fun hm=>CE.n (.mth .pop x.a xs.1) 2 (Wt _ _ _) nofun (W7 _ _ _) (fun u_=>rfl) (fun u_=>rfl) fun K A cl env hx=>Zly hm hl (hb env) (Nat.le_of_ble_eq_true h20) xs.2.1 (x.p hx) (xs.2.2 K A cl env hx).1)).or
 (ifH T.loops fun ho=>J3 (T.meths.lookup m) fun k hk=>some ⟨(.ucall k x.a xs.1,2,.none),⟨Wt _ _ _,fun u_ e=>nn e⟩,fun K A cl env hx=>
  have px:=Zl2 hx.wk (hx.on ho).2.1 hk hl (hb env) (Nat.le_of_ble_eq_true h20) xs.2.1 (x.p hx) (xs.2.2 K A cl env hx).1
  .u (Wt _ _ _) nofun (Zgs px) (Qj (Zgs px) (W7 _ _ _ _)) px (Zb1 (Zgs px))⟩)
theorem Zmd (hx:HX K A cl T){o:Expr}{m x:Str}{p:Pos}{a:Ex}{k:Nat}(hn:∃p,o=.Name m p)(hk:T.attrs.lookup x=some k)(h:PE K A env c cl o a):PE K A env c cl (.Attribute o x p) (.attr a k):=by
 revert h;refine rE (fun z hO=>?_) hn;refine eqS hO ?_;exact fun h=>Zou hx.wk hk h
noncomputable def Zua {o:Expr}(m:Str)(p:Pos)(x:Option (CE T c o)):Option (CE T c (.Attribute o m p)):=x.bind fun x=>J3 (T.attrs.lookup m) fun k hk=>(Zaa o).bind fun z=>
 CE.n (.attr x.a k) 0 ⟨fun u_ v_=>rfl,fun u_=>rfl,fun u_ v_=>rfl,fun u_ v_ w_ x_=>rfl,fun u_ v_ w_ x_=>rfl,nofun⟩ nofun (fun u_ v_=>rfl) (fun u_=>rfl) (fun u_=>rfl) fun u_ v_ w_ x_ hx=>Zmd hx z.2 hk (x.p hx)
noncomputable def Zxh (x:Option (CE T c e)):Option (CO T c (some e)):=x.bind fun x=>some ⟨.yes x.a,fun u_ v_ w_ x_ hx=>Zr9 (x.p hx)⟩
noncomputable def kB1 {op:BoolOp}(x:Option (CE T c e)):Option (CB T c op [e]):=x.bind fun x=>some ⟨x.a,fun h=>absurd h (Nat.not_succ_le_self 1),fun u_ v_ w_ x_ hx=>Zr2 (x.p hx) (x.t hx)⟩
noncomputable def kB2 {e':Expr}{r:List Expr}{op:BoolOp}(x:Option (CE T c e))(y:Option (CB T c op (e'::r))):Option (CB T c op (e::e'::r)):=x.bind fun x=>y.bind fun y=>
 some ⟨Zhy op x.a y.1,fun u_ v_=>(by cases op <;> exact ⟨rfl,rfl⟩),fun K A cl env hx=>Zom (x.p hx) (x.t hx) (y.2.2 K A cl env hx)⟩
noncomputable def kEs {r:List Expr}(x:Option (CE T c e))(y:Option (CEs T c r)):Option (CEs T c (e::r)):=x.bind fun x=>y.bind fun y=>
 some ⟨.cons x.a y.1,Wc x.pl y.2.1,fun K A cl env hx=>⟨Qk (x.pl.star _ _) (x.p hx) (y.2.2 K A cl env hx).1,Zoo (x.t hx) (y.2.2 K A cl env hx).2.1,Zov x.pl y.2.1 (x.q hx).pc (y.2.2 K A cl env hx).2.2⟩⟩
noncomputable def kC1 (op:CmpOp)(x:Option (CE T c e)):Option (CC T c [op] [e]):=x.bind fun x=>
 some ⟨.one (Zlo op) x.a,fun u_=>congrArg (fun z=>[z]) (markedBehindIn_of_false (x.pl.mark op)),fun u_ v_ w_ x_ hx=>Zr3 hx.hu (x.p hx)⟩
noncomputable def kC2 {e':Expr}{es:List Expr}{op':CmpOp}{ops:List CmpOp}(op:CmpOp)(x:Option (CE T c e))(y:Option (CC T c (op'::ops) (e'::es))):Option (CC T c (op::op'::ops) (e::e'::es)):=x.bind fun x=>y.bind fun y=>
 some ⟨.more (Zlo op) x.a y.1,fun env=>congrArg (eval e env::·) (y.2.1 env),fun K A cl env hx=>Zon hx.hu (x.p hx) (y.2.2 K A cl env hx)⟩
theorem Zme {f:Expr}{ks:List Keyword}{es:List Expr}{p:Pos}{g:Str}{it:It}(hk:ks.isEmpty=true)(hf:∃p,f=.Name g p)(h:∀q,PI K A env c cl (.Call (.Name g q) es [] p) it):PI K A env c cl (.Call f es ks p) it:=by
 refine rE (fun q e=>?_) hf
 rw[e,List.isEmpty_iff.mp hk];exact h q
noncomputable def kR1 (f:Expr)(ks:List Keyword)(p:Pos)(x:Option (CE T c e)):Option (CI T c (.Call f [e] ks p)):=ifH ks.isEmpty fun hk=>(Zaa f).bind fun g=>ifH (Y5 c g.1) fun h1=>ifH (g.1 == Wk) fun h2=>x.bind fun a=>
 some ⟨.rng1 a.a,fun u_ v_=>rfl,fun u_ v_ w_ x_ hx=>Zme hk g.2 fun u_=>Zor hx.G h1 h2 (Wc a.pl Za0) (Qk (a.pl.star _ _) (a.p hx) Zcc)⟩
noncomputable def kR2 {e':Expr}(f:Expr)(ks:List Keyword)(p:Pos)(x:Option (CE T c e))(y:Option (CE T c e')):Option (CI T c (.Call f [e,e'] ks p)):=ifH ks.isEmpty fun hk=>(Zaa f).bind fun g=>ifH (Y5 c g.1) fun h1=>ifH (g.1 == Wk) fun h2=>x.bind fun a=>y.bind fun b=>
 some ⟨.rng2 a.a b.a,fun u_ v_=>rfl,fun u_ v_ w_ x_ hx=>Zme hk g.2 fun u_=>Zos hx.G h1 h2 (Wc a.pl (Wc b.pl Za0)) (Qk (a.pl.star _ _) (a.p hx) (Qk (b.pl.star _ _) (b.p hx) Zcc))⟩
theorem Zub {sc:Scope}{tg iter:Expr}{ifs:List Expr}{async:Int}{gs:List Comprehension}{y:Str}{i:Nat}{it:It}{fs:Es}(h0:(gs.isEmpty&&async == 0)=true)(hy:∃p,tg=.Name y p)(hi:Um (Jb c sc) y=some i)(hl:((Jb c sc).names.lookup y == some .local)=true)
  (h1:PI K A env c cl iter it) (h2:∀v,foldedSetIterable iter env v=pure v) (h3:∀cenv,PF K A cenv (Jb c sc) cl ifs fs):GQ K A env c cl sc (⟨tg,iter,ifs,async⟩::gs) (i,it,fs):=by
 refine rE (fun p e=>?_) hy
 exact ⟨y,p,iter,ifs,by rw[e,List.isEmpty_iff.mp (Ud h0),eq_of_beq (W2 h0)],eq_of_beq hl,hi,h1,h2,h3⟩
noncomputable def Zxi {sc:Scope}{iter:Expr}{ifs:List Expr}(tg:Expr)(async:Int)(gs:List Comprehension)(r:Option (CI T c iter))(x:Option (CE T c iter))(fs:Option (CEs T (Jb c sc) ifs)):Option (CG T c sc (⟨tg,iter,ifs,async⟩::gs)) :=
 ifH (gs.isEmpty&&async == 0) fun h0=>(Zaa tg).bind fun y=>J3 (Um (Jb c sc) y.1) fun i hi=>ifH ((Jb c sc).names.lookup y.1 == some .local) fun hl=>(r.or (x.map CI.of)).bind fun it=>fs.bind fun fs=>
  some ⟨(i,it.1,fs.1),fun K A cl env hx=>Zub h0 y.2 hi hl (it.2.2 K A cl env hx) (it.2.1 env) fun cenv=>(fs.2.2 K A cl cenv hx).2.1⟩
end
mutual
noncomputable def cE (T:Tabs):(c:CEnv)→(e:Expr)→Option (CE T c e)
 | c,.Constant k n p=>Zsn T c k n p
 | c,.Name x p=>Zt5 T c x p
 | c,.BinOp l op r p=>Zw9 op p (cE T c l) (cE T c r)
 | c,.UnaryOp .USub x p=>Zxa p (cE T c x)
 | c,.UnaryOp .Not x p=>Zxb p (cE T c x)
 | c,.BoolOp op vs p=>Zt6 p (cB T op c vs)
 | c,.Compare l ops cs p=>Zxc p (cE T c l) (cCh T c cs ops)
 | c,.IfExp t b o p=>kIf p (cE T c t) (cE T c b) (cE T c o)
 | c,.Tuple es k p=>Zxd k p (cEs T c es)
 | c,.List es p=>Zxe p (cEs T c es)
 | c,.Subscript v (.Slice lo hi st r) p=>Zxf r p (cE T c v) (cO T c lo) (cO T c hi) (cO T c st)
 | c,.Subscript v i p=>Zxg p (cE T c v) (cE T c i)
 | c,.ListComp elt gens sc p=>Zt7 p (Zxj T sc c gens) (cE T (Jb c sc) elt)
 | c,.Call (.Name f q) as [] p=>Zt8 f q p (cEs T c as)
 | c,.Call (.Attribute o m q) as [] p=>Zt9 m q p (cE T c o) (cEs T c as)
 | c,.Attribute o m p=>Zua m p (cE T c o)
 | _,_=>.none
noncomputable def cO (T:Tabs):(c:CEnv)→(e:Option Expr)→Option (CO T c e)
 | _,.none=>some ⟨.no,fun u_ v_ w_ x_ y_=>Zt2⟩
 | c,some e=>Zxh (cE T c e)
noncomputable def cB (T:Tabs)(op:BoolOp):(c:CEnv)→(es:List Expr)→Option (CB T c op es)
 | _,[]=>.none
 | c,[e]=>kB1 (cE T c e)
 | c,e::e'::r=>kB2 (cE T c e) (cB T op c (e'::r))
noncomputable def cEs (T:Tabs):(c:CEnv)→(es:List Expr)→Option (CEs T c es)
 | _,[]=>some ⟨.nil,Za0,fun u_ v_ w_ x_ y_=>⟨Zcc,Zsb,Zsg⟩⟩
 | c,e::r=>kEs (cE T c e) (cEs T c r)
noncomputable def cCh (T:Tabs):(c:CEnv)→(es:List Expr)→(ops:List CmpOp)→Option (CC T c ops es)
 | c,[e],[op]=>kC1 op (cE T c e)
 | c,e::e'::es,op::op'::ops=>kC2 op (cE T c e) (cCh T c (e'::es) (op'::ops))
 | _,_,_=>.none
noncomputable def cR (T:Tabs):(c:CEnv)→(e:Expr)→Option (CI T c e)
 | c,.Call f [x] ks p=>kR1 f ks p (cE T c x)
 | c,.Call f [x,y] ks p=>kR2 f ks p (cE T c x) (cE T c y)
 | _,_=>.none
noncomputable def Zxj (T:Tabs)(sc:Scope):(c:CEnv)→(gens:List Comprehension)→Option (CG T c sc gens)
 | _,[]=>.none
 | c,⟨tg,iter,ifs,async⟩::gs=>Zxi tg async gs (cR T c iter) (cE T c iter) (cEs T (Jb c sc) ifs)
end
noncomputable def CS (T:Tabs)(c:CEnv)(st:Stmt):Type:={ a:St // ∀(K:Kx) (A:Around) (cl:Cl) (env:Env),HX K A cl T→(∃outer,A.frames=some (env::outer))→PS K A T env c cl st a }
noncomputable def CSs (T:Tabs)(c:CEnv)(ss:List Stmt):Type:={ a:Ss // ∀(K:Kx) (A:Around) (cl:Cl) (env:Env),HX K A cl T→(∃outer,A.frames=some (env::outer))→PSs K A T env c cl ss a }
section
variable {T:Tabs}{c:CEnv}{K:Kx}{A:Around}{cl:Cl}{env:Env}
theorem HX.try_ (x:HX K A cl T):HX K A cl (Zlm T):=⟨⟨x.G.ty,x.G.fn,x.G.bl,x.G.rg,x.G.cl,fun u_ v_ h=>nn h⟩,x.ty,x.hu,x.on,x.hd,x.sort,⟨x.wk.cls,x.wk.tyb,x.wk.attr⟩,⟨fun u_ v_ h=>nn h,fun u_ v_ w_ h=>nn h⟩⟩
theorem Zbl {x:Str}{b:Blt}(h:(quiet T).blts.lookup x=some b):T.blts.lookup x=some b∧(b=.isinstance∨b=.int):=by
 refine byC fun hX=>?_;obtain ⟨h1,h2⟩:=List.mem_filter.mp (mem_of_lookup h);refine hX ?_;clear hX
 refine ⟨of_decide_eq_true (by simpa using h2),?_⟩
 rcases List.mem_cons.mp h1 with e | h1
 ·exact .inl (congrArg Prod.snd e)
 ·exact .inr (congrArg Prod.snd (List.mem_singleton.mp h1))
theorem HX.quiet (x:HX K A cl T)(v:Value):HX K (A.mark (some v)) cl (quiet T) where
 G:=⟨x.G.ty,fun u_ v_ h=>nn h,fun y b h=>x.G.bl y b (Zbl h).1,x.G.rg,fun u_ v_ h=>nn h,x.G.ex⟩
 ty:=x.ty
 hu:=x.hu
 on:=fun h=>ft h
 hd:=fun y b h h1 h2=>((Zbl h).2.elim h1 h2).elim
 sort:=fun y h=>(by rcases (Zbl h).2 with h | h <;> cases h)
 wk:=⟨fun c C h=>Zbf (fun N mN h1 h2 h3 h4 h5 u_ h7=>⟨N,mN,h1,h2,h3,h4,h5,fun u_ v_ w_ h=>nn h,h7⟩) (x.wk.cls c C h),x.wk.tyb,fun u_ v_ h=>nn h⟩
 ek:=⟨x.ek.at_,x.ek.sub⟩
noncomputable def Zuc {e:Expr}(p:Pos)(x:Option (CE T c e)):Option (CS T c (.Expr e p)):=x.bind fun x=>ifH (x.1.2.1 != 1) fun h=>some ⟨.expr x.a,fun K A cl env hx u_=>Zoz (x.pl.sw (bne_iff_ne.mp h) _ _ _) (x.q hx).px⟩
noncomputable def Zud {v:Expr}(n:Str)(px p:Pos)(x:CE T c v):Option (CS T c (.Assign [.Name n px] v p)):=J3 (Um c n) fun i hi=>some ⟨.asg (.one i) x.a,fun u_ v_ w_ x_ hx y_=>(x.q hx).pa n px p i hi⟩
noncomputable def Zue {v o:Expr}(a:Str)(px p:Pos)(x:CE T c v)(y:Option (CE T c o)):Option (CS T c (.Assign [.Attribute o a px] v p)):=y.bind fun y=>J3 (T.attrs.lookup a) fun k hk=>ifH (x.1.2.1 != 1) fun h=>
 some ⟨.aset y.a k x.a,fun u_ v_ w_ x_ hx y_=>Zo7 hx.wk (x.pl.sw (bne_iff_ne.mp h) _ _ _) hk (x.q hx).px (y.p hx)⟩
theorem Zso (hx:HX K A cl T)(hl:T.loops=true){e1 e2 e3:Expr}{k:Nat}{px:Pos}{n1 n2 n3:Str}{i1 i2 i3:Nat}(h1:∃p,e1=.Name n1 p)(h2:∃p,e2=.Name n2 p)(h3:∃p,e3=.Name n3 p)(g1:Um c n1=some i1)(g2:Um c n2=some i2)(g3:Um c n3=some i3):PTg K A env c (.Tuple [e1,e2,e3] k px) (.three i1 i2 i3):=by
 revert h1 h2 h3;refine rE fun p1 q1=>rE fun p2 q2=>rE fun p3 q3=>?_
 rw[q1,q2,q3];exact Zkt (hx.on hl).1 g1 g2 g3
noncomputable def Zuf {v:Expr}(e1 e2 e3:Expr)(k:Nat)(px p:Pos)(x:CE T c v):Option (CS T c (.Assign [.Tuple [e1,e2,e3] k px] v p)):=ifH T.loops fun hl=>ifH (x.1.2.1 == 3) fun h=>(Zaa e1).bind fun n1=>(Zaa e2).bind fun n2=>(Zaa e3).bind fun n3=>J3 (Um c n1.1) fun i1 g1=>J3 (Um c n2.1) fun i2 g2=>J3 (Um c n3.1) fun i3 g3=>
 some ⟨.asg (.three i1 i2 i3) x.a,fun K A cl env hx u_=>Zl5 (x.pl.sole (eq_of_beq h) _ _ _ _ env).1 (x.pl.sole (eq_of_beq h) _ _ _ p.line env).2 (Zso hx hl n1.2 n2.2 n3.2 g1 g2 g3) (x.q hx).px⟩
noncomputable def Zxk {v:Expr}(p:Pos)(x:CE T c v):(ts:List Expr)→Option (CS T c (.Assign ts v p))
 | [.Name n px]=>Zud n px p x
 | [.Attribute o a px]=>Zue a px p x (cE T c o)
 | [.Tuple [e1,e2,e3] k px]=>Zuf e1 e2 e3 k px p x
 | _=>.none
noncomputable def Zxl (T:Tabs)(c:CEnv)(p:Pos):(e:Option Expr)→Option (CS T c (.Return e p))
 | .none=>some ⟨.ret (.lit .none),fun u_ v_ w_ x_ y_ z_=>Zo0⟩
 | some e=>(cE T c e).bind fun x=>some ⟨.ret x.a,fun u_ v_ w_ x_ hx y_=>Zsh (x.q hx).px⟩
noncomputable def Zxm {t:Expr}{a b:List Stmt}(p:Pos)(x:Option (CE T c t))(y:Option (CSs T c a))(z:Option (CSs T c b)):Option (CS T c (.If t a b p)):=x.bind fun x=>y.bind fun y=>z.bind fun z=>
 some ⟨.ife x.a y.1 z.1,fun K A cl env hx hf=>Zt4 (x.t hx) (y.2 K A cl env hx hf) (z.2 K A cl env hx hf)⟩
theorem Zxn {t i:Expr}{b o:List Stmt}{p:Pos}{n:Str}{it:It}{z:Ss}{k:Nat}(hx:HX K A cl T)(ho:(o.isEmpty&&T.loops)=true)(ht:∃p,t=.Name n p)(hk:Um c n=some k)(hf:∀v,foldedSetIterable i env v=pure v)(hi:PI K A env c cl i it)(hb:PSs K A T env c cl b z):PS K A T env c cl (.For t i b o p) (.for_ (.one k) it z):=by
 refine rE (fun q e=>?_) ht
 rw[e,List.isEmpty_iff.mp (Ud ho)];exact Zsl (hx.on (W2 ho)).1 hf (Zo2 hk) hi hb
noncomputable def Zxo {b:List Stmt}(t i:Expr)(o:List Stmt)(p:Pos)(z:Option (CSs T c b)):Option (CS T c (.For t i b o p)):=ifH (o.isEmpty&&T.loops) fun ho=>(Zaa t).bind fun n=>J3 (Um c n.1) fun k hk=>((cR T c i).or ((cE T c i).map CI.of)).bind fun it=>z.bind fun z=>
 some ⟨.for_ (.one k) it.1 z.1,fun K A cl env hx hf=>Zxn hx ho n.2 hk (it.2.1 env) (it.2.2 K A cl env hx) (z.2 K A cl env hx hf)⟩
noncomputable def Zsp {t:Expr}{b:List Stmt}(p:Pos)(x:Option (CE T c t))(z:Option (CSs T c b)):Option (CS T c (.While t b [] p)):=x.bind fun x=>z.bind fun z=>
 some ⟨.whl x.a z.1,fun K A cl env hx hf=>Zma (x.t hx) (z.2 K A cl env hx hf)⟩
theorem Zsq {f:Expr}{e1:Expr}{v1:V}{q p:Pos}{n:Str}{k:Nat}(hx:HX K A cl T)(hf:∃p,f=.Name n p)(hg:(Y5 c n&&T.loops)=true)(hk:T.excs.lookup n=some k)(hc:Xy [e1])(h1:PEs K A env c cl [e1] (.cons (.lit v1) .nil)):PS K A T env c cl (.Raise (some (.Call f [e1] [] q)) none p) (.raise k):=by
 refine rE (fun q e=>?_) hf
 rw[e];exact Zmb hx.G hx.ek (hx.on (W2 hg)).1 (Ud hg) hk hc h1
noncomputable def Zsr {e1:Expr}(f:Expr)(q p:Pos)(x:Option (CE T c e1)):Option (CS T c (.Raise (some (.Call f [e1] [] q)) none p)):=x.bind fun x=>J3 x.1.2.2 fun v hv=>(Zaa f).bind fun n=>ifH (Y5 c n.1&&T.loops) fun hg=>J3 (T.excs.lookup n.1) fun k hk=>
 some ⟨.raise k,fun u_ v_ w_ x_ hx y_=>Zsq hx n.2 hg hk (Wc x.pl Za0) (Qk (x.pl.star _ _) (x.li hv▸x.p hx) Zcc)⟩
theorem Zxp {b suite:List Stmt}{h0:Stmt}{t:Expr}{p1 p:Pos}{n:Str}{k:Nat}{xb yb:Ss}(hx:HX K A cl T)(hfr:∃outer,A.frames=some (env::outer))(ht:∃p,t=.Name n p)(hg:Y5 c n=true)(hk:T.excs.lookup n=some k)(hb:PSs K A (Zlm T) env c cl b xb)(hs:∀ev,PSs K (A.mark (some ev)) (Mini.Internal.quiet T) env c cl (h0::suite) yb) :
  PS K A T env c cl (.Try b [.ExceptHandler (some t) none (h0::suite) p1] [] [] p) (.try_ xb k yb):=rE (fun u_ e=>Zsm hx.G hx.ek hfr e hg hk hb hs) ht
noncomputable def Zxq {b suite:List Stmt}{h0:Stmt}(t:Expr)(p1 p:Pos)(x:Option (CSs (Zlm T) c b))(y:Option (CSs (quiet T) c (h0::suite))):Option (CS T c (.Try b [.ExceptHandler (some t) none (h0::suite) p1] [] [] p)):=(Zaa t).bind fun n=>ifH (Y5 c n.1) fun hg=>J3 (T.excs.lookup n.1) fun k hk=>x.bind fun x=>y.bind fun y=>
 some ⟨.try_ x.1 k y.1,fun K A cl env hx hf=>Zxp hx hf n.2 hg hk (x.2 K A cl env hx.try_ hf) fun ev=>y.2 K (A.mark (some ev)) cl env (hx.quiet ev) hf⟩
noncomputable def kSs {s:Stmt}{r:List Stmt}(x:Option (CS T c s))(y:Option (CSs T c r)):Option (CSs T c (s::r)):=x.bind fun x=>y.bind fun y=>some ⟨.cons x.1 y.1,fun K A cl env hx hf=>Zl3 (x.2 K A cl env hx hf) (y.2 K A cl env hx hf)⟩
end
mutual
noncomputable def cSt:(st:Stmt)→(T:Tabs)→(c:CEnv)→Option (CS T c st)
 | .Expr e p,T,c=>Zuc p (cE T c e)
 | .Assign ts v p,T,c=>(cE T c v).bind fun x=>Zxk p x ts
 | .Return v p,T,c=>Zxl T c p v
 | .If t a b p,T,c=>Zxm p (cE T c t) (cSs a T c) (cSs b T c)
 | .For t i b o p,T,c=>Zxo t i o p (cSs b T c)
 | .While t b [] p,T,c=>Zsp p (cE T c t) (cSs b T c)
 | .Break p,T,c=>some ⟨.brk,fun u_ v_ w_ x_ y_ z_=>Zsi⟩
 | .Pass p,T,c=>some ⟨.pass,fun u_ v_ w_ x_ y_ z_=>Zo1⟩
 | .Raise (some (.Call f [e1] [] q)) none p,T,c=>Zsr f q p (cE T c e1)
 | .Try b [.ExceptHandler (some t) none (h0::suite) p1] [] [] p,T,c=>Zxq t p1 p (cSs b (Zlm T) c) (cSs (h0::suite) (quiet T) c)
 | _,_,_=>.none
noncomputable def cSs:(ss:List Stmt)→(T:Tabs)→(c:CEnv)→Option (CSs T c ss)
 | [],_,_=>some ⟨.nil,fun u_ v_ w_ x_ y_ z_=>Zoy⟩
 | s::r,T,c=>kSs (cSt s T c) (cSs r T c)
end
end Mini.Internal
namespace Mini.Internal
open PySem PyProof.Rows PySem.SeqAt
variable {ρ ρ' ρ1:List Addr}{σ σ' σ1:H}{s s' s1:Shared}{h h':Heap}{ℓ ℓ':L}
theorem RV.under {K:Kx}{v:V}{x:Value}(r:RV K ρ h v x):Mini.Internal.below ρ.length v=true :=
 RV.rec (motive_1:=fun v u_ v_=>Mini.Internal.below ρ.length v=true) (motive_2:=fun l u_ v_=>Mini.Internal.belows ρ.length l=true) rfl (fun u_=>rfl) (fun u_ v_=>rfl) (fun u_ v_=>rfl) (fun u_ v_ w_ i=>i) (fun e=>decide_eq_true (List.getElem?_eq_some_iff.mp e).1) (fun u_=>rfl) (fun u_ v_ w_ x_=>rfl) rfl (fun u_ v_ i j=>X8 i j) r
theorem RVs.under {K:Kx}{l:List V}{vs:List Value}(r:RVs K ρ h l vs):Mini.Internal.belows ρ.length l=true :=
 RVs.ind (P:=fun l u_=>Mini.Internal.belows ρ.length l=true) rfl (fun a u_ i=>X8 a.under i) r
theorem Zgx (n:Nat)(l:List Int):belows n (l.map V.int)=true:=by
 induction l with
 | nil=>rfl
 | cons x r ih=>exact X8 rfl ih
theorem Zc0 {α:Type}{l l':List α}(hp:l <+: l'){n:Nat}{a:α}(hn:n<l.length)(e:l'[n]?=some a):l[n]?=some a:=by
 refine byC fun hX=>?_;revert hp;refine rE fun t hO1=>?_;obtain rfl:=hO1;refine hX ?_;clear hX
 rwa [List.getElem?_append_left hn] at e
theorem RV.cut {K:Kx}(hp:ρ <+: ρ1){v:V}{x:Value}(r:RV K ρ1 h v x):Mini.Internal.below ρ.length v=true→RV K ρ h v x :=
 RV.rec (motive_1:=fun v x u_=>Mini.Internal.below ρ.length v=true→RV K ρ h v x) (motive_2:=fun l vs u_=>Mini.Internal.belows ρ.length l=true→RVs K ρ h l vs) (fun u_=>.none) (fun b u_=>.bool b) (fun i t u_=>.int i t) (fun i t u_=>.str i t) (fun e u_ n i hb=>.tup e (i hb) n)
  (fun e hb=>.obj (Zc0 hp (of_decide_eq_true hb) e)) (fun t u_=>.ty t) (fun e u_ n i v_=>.frz e (i (Zgx _ _)) n) (fun u_=>.nil) (fun u_ v_ i j hb=>.cons (i (Ud hb)) (j (W2 hb))) r
theorem RVs.cut {K:Kx}(hp:ρ <+: ρ1){l:List V}{vs:List Value}(r:RVs K ρ1 h l vs):Mini.Internal.belows ρ.length l=true→RVs K ρ h l vs :=
 RVs.ind (P:=fun l vs=>Mini.Internal.belows ρ.length l=true→RVs K ρ h l vs) (fun u_=>.nil) (fun a u_ i hb=>.cons (a.cut hp (Ud hb)) (i (W2 hb))) r
theorem HR.cut {K:Kx}{h1:Heap}(hr:HR K ρ σ h)(hr1:HR K ρ1 σ1 h1)(hp:ρ <+: ρ1)(ht:σ1.take σ.length=σ):HR K ρ σ h1:=by
 refine ⟨hr1.keep,hr.len,hr.nd,hr.new,fun n o a h1 h2=>?_⟩
 have hn:=(List.getElem?_eq_some_iff.mp h1).1
 have h1':σ1[n]?=some o:=by
  rw[← ht,List.getElem?_take_of_lt hn] at h1;exact h1
 have ho:=hr1.obj n o a h1' (Wb hp h2)
 have ho0:=hr.obj n o a h1 h2
 cases o with
 | list l=>
  revert ho0;refine Ym fun vs0 n0 e0 r0 u4_=>?_
  revert ho;refine Ym fun vs n1 e1 r1 hl=>?_
  exact ⟨vs,n1,e1,r1.cut hp r0.under,hl⟩
 | inst c d=>
  revert ho0;refine W1 fun u0_ u1_ ad0 u3_ u4_ u5_ u6_ u7_ q=>?_
  revert ho;refine W1 fun o C ad e1 e2 e3 e4 e5 e6=>?_
  exact ⟨o,C,ad,e1,e2,e3,e4,e5,Zc0 hp (List.getElem?_eq_some_iff.mp q).1 e6⟩
 | ns l=>
  revert ho0;refine J5 fun u0_ u1_ u2_ q=>?_
  revert ho;refine J5 fun m e1 e2 e3=>?_
  refine ⟨m,e1,e2,fun k v hv=>?_⟩
  refine Zfz (fun hk cv h5 h6=>?_) (e3 k v hv)
  refine Zfz (fun u0_ u1_ u2_ h7=>?_) (q k v hv)
  exact ⟨hk,cv,h5,h6.cut hp h7.under⟩
structure FnAt (K:Kx)(T:Tabs)(f:Nat)(F:Fn)(o:Obj)(fd:FuncData)(body:List Stmt)(xs:List Str):Prop where
 ho:K.h0.get? (K.fna f)=some o
 data:o.data=.func fd
 bodyE:fd.body=.stmts body
 clo:fd.closure=[]
 kind:fd.scope.kind=.function
 co:fd.scope.isCoroutine=false
 gen:fd.scope.isGenerator=false
 nd:(fd.scope.names.map (·.1)).Nodup
 glob:fd.globals=mainGlobals
 blts:fd.builtins=builtinsNs
 code:K.h0.CodeRec fd.code fd.qualname
 bind:∀vals:List Value,vals.length=xs.length→bindArgs fd ⟨vals,[]⟩=pure (xs.zip vals)
 ps:xs.mapM (fun x=>(Yr fd.scope.names).lookup x)=some F.ps
 comp:∀(A:Around) (cl:Cl) (env:Env),HX K A cl T→(∃outer,A.frames=some (env::outer))→PSs K A T env (fnC fd.scope) cl body F.body
 size:(Zb0 fd.scope.names).length≤F.size
noncomputable def Zss (K:Kx)(T:Tabs)(f:Nat)(F:Fn):Prop:=∃o fd body xs,FnAt K T f F o fd body xs
theorem W8 {names:List (Str×NameKind)}{x:Str}{i:Nat}(h:(Yr names).lookup x=some i):i<(Zb0 names).length∧∃k,(Zb0 names)[i]?=some (x,k):=by
 have hm:=mem_of_lookup h
 unfold Yr at hm
 refine rEA (fun hO0 h1 h2=>?_) (List.mem_map.mp hm);obtain ⟨hO0,j⟩:=hO0;obtain ⟨n,k⟩:=hO0
 refine piE h2 ?_
 refine rA (fun h3 h4=>?_) (List.mem_zipIdx' h1)
 exact ⟨h3,k,by rw[List.getElem?_eq_getElem h3,← h4]⟩
theorem Zd8 {names:List (Str×NameKind)}{x y:Str}{i:Nat}(h:(Yr names).lookup x=some i)(h':(Yr names).lookup y=some i):x=y:=by
 refine rAE (fun u0_ k e=>?_) (W8 h)
 refine rAE (fun u0_ k' e'=>?_) (W8 h')
 rw[e] at e';refine pE e' ?_;rfl
theorem Zc1 {names:List (Str×NameKind)}{x:Str}{i:Nat}(hn:(names.map (·.1)).Nodup)(h:(Yr names).lookup x=some i):names.lookup x=some .local∨names.lookup x=some .cell:=by
 refine rAE (fun u0_ k e=>?_) (W8 h)
 have hm:=List.mem_of_getElem? e
 unfold Zb0 at hm
 refine rA (fun h1 h2=>?_) (List.mem_filter.mp hm)
 simp only[Bool.or_eq_true,beq_iff_eq] at h2
 have:=Jp hn h1
 rcases h2 with h2 | h2 <;> rw[h2] at this
 ·exact .inl this
 ·exact .inr this
theorem Xz:∀{names:List (Str×NameKind)}{n:Nat}{acc:List (Str×Addr)},(names.map (·.1)).Nodup→(acc.map (·.1)).Nodup→(∀x∈acc.map (·.1),x ∉ names.map (·.1))→((cellsFrom n names acc).map (·.1)).Nodup
 | [],_,_,_,h,_=>h
 | (y,k)::r,n,acc,hn,ha,hd=>by
  rw[List.map_cons,List.nodup_cons] at hn
  unfold cellsFrom
  split
  ·refine Xz hn.2 ?_ fun x hx=>?_
   ·rw[List.map_cons,List.nodup_cons]
    exact ⟨fun hm=>hd y hm (by simp),ha⟩
   ·rw[List.map_cons] at hx
    rcases List.mem_cons.mp hx with rfl | hx
    ·exact hn.1
    ·exact fun hm=>hd x hx (List.mem_cons_of_mem _ hm)
  ·exact Xz hn.2 ha fun x hx hm=>hd x hx (List.mem_cons_of_mem _ hm)
set_option tactic.hygienic true in
theorem Qx:∀{names:List (Str×NameKind)}{n:Nat}{acc:List (Str×Addr)}{x:Str},((x,NameKind.cell)∈names∨x∈acc.map (·.1))→x∈(cellsFrom n names acc).map (·.1)
 | [],_,_,x,h=>by
  rcases h with h | h
  ·cases h
  ·exact h
 | (y,k)::r,n,acc,x,h=>by
  unfold cellsFrom
  split
  ·rename_i hk
   refine Qx ?_
   rcases h with h | h
   ·rcases List.mem_cons.mp h with e | h
    ·refine byC fun hX=>?_;refine rA (fun hO0 hO1=>?_) (Prod.mk.inj e);obtain rfl:=hO0;obtain rfl:=hO1;refine hX ?_;clear hX;right;simp
    ·exact .inl h
   ·right;exact List.mem_cons_of_mem _ h
  ·rename_i hk
   refine Qx ?_
   rcases h with h | h
   ·rcases List.mem_cons.mp h with e | h
    ·refine byC fun hX=>?_;refine rA (fun hO0 hO1=>?_) (Prod.mk.inj e);obtain rfl:=hO0;obtain rfl:=hO1;refine hX ?_;clear hX;simp at hk
    ·exact .inl h
   ·exact .inr h
section
variable {K:Kx}{A:Around}{T:Tabs}
set_option tactic.hygienic true in
theorem Zbm {names:List (Str×NameKind)}(kindOf:Str→Option NameKind)(hk:∀x,kindOf x=names.lookup x)(hnd:(names.map (·.1)).Nodup) :
  ∀(xs:List Str) (is:List Nat) (vs:List V) (cvs:List Value) (ℓ0 ℓ:L) (m cm:Str→Option Value),xs.mapM (fun x=>(Yr names).lookup x)=some is→Uf is vs ℓ0=some ℓ→RVs K ρ h vs cvs→
   (∀x (i:Nat) v,(Yr names).lookup x=some i→ℓ0[i]?=some (some v)→∃cv,(if names.lookup x=some .local then m x else cm x)=some cv∧RV K ρ h v cv)→
   xs.length=cvs.length∧∀x (i:Nat) v,(Yr names).lookup x=some i→ℓ[i]?=some (some v)→∃cv,(if names.lookup x=some .local then bindL kindOf (xs.zip cvs) m x else bindC kindOf (xs.zip cvs) cm x)=some cv∧RV K ρ h v cv
 | [],is,vs,cvs,ℓ0,ℓ,m,cm,h1,h2,h3,h4=>by
  simp only[List.mapM_nil] at h1
  obtain rfl:=Option.some.inj h1
  cases vs with
  | nil=>cases h3;obtain rfl:=Option.some.inj h2;exact ⟨rfl,h4⟩
  | cons _ _=>exact nn h2
 | x::xs,is,vs,cvs,ℓ0,ℓ,m,cm,h1,h2,h3,h4=>by
  rw[List.mapM_cons] at h1
  cases hs:(Yr names).lookup x with
  | none=>rw[hs] at h1;exact nn h1
  | some i=>
   rw[hs] at h1
   cases hr:xs.mapM (fun x=>(Yr names).lookup x) with
   | none=>rw[hr] at h1;exact nn h1
   | some is'=>
    rw[hr] at h1;obtain rfl:=Option.some.inj h1
    cases h3 with
    | nil=>exact nn h2
    | cons r rs=>
     rename_i v l cx cvs'
     simp only[Uf] at h2
     refine Zw (h2) fun ℓ1 h5 h6=>?_
     refine rA (fun hi hset=>?_) (Zaj h5)
     have hkx:=Zc1 hnd hs
     have ih:=Zbm kindOf hk hnd xs is' l cvs' ℓ1 ℓ (if kindOf x=some .local then fun y=>if y=x then some cx else m y else m) (if kindOf x=some .local then cm else fun y=>if y=x then some cx else cm y) hr h6 rs ?_
     ·refine ⟨by simp[ih.1],fun y j w g1 g2=>?_⟩
      have:=ih.2 y j w g1 g2
      simpa only[List.zip_cons_cons,bindL,bindC] using this
     ·intro y j w g1 g2
      rw[hset] at g2
      by_cases hj:j=i
      ·subst hj
       rw[if_pos rfl] at g2;cases g2
       obtain rfl:=Zd8 g1 hs
       refine ⟨cx,?_,r⟩
       rcases hkx with hkx | hkx
       ·rw[if_pos hkx,if_pos (by rw[hk];exact hkx)];simp
       ·have hne:¬ names.lookup y=some .local:=by rw[hkx];decide
        rw[if_neg hne,if_neg (by rw[hk];exact hne)];simp
      ·rw[if_neg hj] at g2
       have hyx:y≠x:=by rintro rfl;rw[g1] at hs;obtain rfl:=Option.some.inj hs;exact hj rfl
       refine rEA (fun cw e1 e2=>?_) (h4 y j w g1 g2)
       refine ⟨cw,?_,e2⟩
       rw[← e1]
       split
       ·split
        ·simp[hyx]
        ·rfl
       ·split
        ·rfl
        ·simp[hyx]
theorem Zc2 {n:Nat}:∀(is:List Nat) (vs:List V) (ℓ0 ℓ:L),Uf is vs ℓ0=some ℓ→(∀i∈is,i<n)→(∀(i:Nat) v,n≤i→ℓ0[i]?≠some (some v))→∀(i:Nat) v,n≤i→ℓ[i]?≠some (some v)
 | [],[],ℓ0,ℓ,h,_,h0=>by refine siE h ?_;exact h0
 | [],_::_,ℓ0,ℓ,h,_,_=>by exact nn h
 | _::_,[],ℓ0,ℓ,h,_,_=>by exact nn h
 | i::is,v::vs,ℓ0,ℓ,h,hlt,h0=>by
  simp only[Uf] at h
  refine Zw (h) fun ℓ1 h5 h6=>?_
  refine rA (fun u0_ hset=>?_) (Zaj h5)
  refine Zc2 is vs ℓ1 ℓ h6 (fun j hj=>hlt j (List.mem_cons_of_mem _ hj)) fun j w hj=>?_
  have:=hlt i List.mem_cons_self
  rw[hset,if_neg (by exact ln3 [(.le .v2 .v0),(.lt .v1 .v2)] (.no (.eq .v0 .v1)) (.d 11011) rfl hj this)]
  exact h0 j w hj
theorem Zmf {xs:List Str}{names:List (Str×NameKind)}:∀{is:List Nat},xs.mapM (fun x=>(Yr names).lookup x)=some is→∀i∈is,∃x∈xs,(Yr names).lookup x=some i:=by
 induction xs with
 | nil=>intro is h;simp only[List.mapM_nil] at h;refine siE h ?_;intro i hi;cases hi
 | cons x xs ih=>
  intro is h
  rw[List.mapM_cons] at h
  cases hs:(Yr names).lookup x with
  | none=>rw[hs] at h;exact nn h
  | some i=>
   rw[hs] at h
   cases hr:xs.mapM (fun x=>(Yr names).lookup x) with
   | none=>rw[hr] at h;exact nn h
   | some is'=>
    rw[hr] at h;refine siE h ?_
    intro j hj
    rcases List.mem_cons.mp hj with rfl | hj
    ·exact ⟨x,List.mem_cons_self,hs⟩
    ·refine rEA (fun y hy e=>?_) (ih hr j hj);exact ⟨y,List.mem_cons_of_mem _ hy,e⟩
theorem Zgy {names:List (Str×NameKind)}:∀{xs:List Str}{is:List Nat},xs.mapM (fun x=>(Yr names).lookup x)=some is→∀x∈xs,∃i,(Yr names).lookup x=some i
 | [],_,_,x,hx=>by cases hx
 | y::xs,is,h,x,hx=>by
  rw[List.mapM_cons] at h
  cases hs:(Yr names).lookup y with
  | none=>rw[hs] at h;exact nn h
  | some i=>
   rw[hs] at h
   cases hr:xs.mapM (fun x=>(Yr names).lookup x) with
   | none=>rw[hr] at h;exact nn h
   | some is'=>
    rcases List.mem_cons.mp hx with rfl | hx
    ·exact ⟨i,hs⟩
    ·exact Zgy hr x hx
end
section
variable {K:Kx}{A:Around}{T:Tabs}
theorem Zmg {f:Nat}{F:Fn}{o:Obj}{fd:FuncData}{body:List Stmt}{xs:List Str}(x:FnAt K T f F o fd body xs){as:List V}(hst:Ut F as=some ℓ)(hr:HR K ρ σ s.heap){cvs:List Value}(rvs:RVs K ρ s.heap as cvs){a:Addr}
  (hin : InCallC s (callEnvC fd s.heap.objs.size a).locals (bindL (callEnvC fd s.heap.objs.size a).kindOf (xs.zip cvs) fun u_ => none) (callEnvC fd s.heap.objs.size a).cells
    (bindC (callEnvC fd s.heap.objs.size a).kindOf (xs.zip cvs) fun u_=>none) s1) (ff:FF K A ρ s.heap):FO K (A.deeper (callEnvC fd s.heap.objs.size a)) (callEnvC fd s.heap.objs.size a) (fnC fd.scope) ℓ ρ s1.heap:=by
 refine rA (fun f1 f2=>?_) (Qw hr)
 have hk:∀b o,s.heap.get? b=some o→s1.heap.get? b=some o:=hin.toInCall.keep
 have hnone:∀b:Addr,@LE.le Nat _ s.heap.objs.size b→b ∉ ρ∧K.h0.get? b=none:=by
  intro b hb
  have h0:s.heap.get? b=none:=by
   cases e:s.heap.get? b with
   | none=>rfl
   | some o=>have:=Heap.lt_size e;exact absurd hb (Nat.not_le.mpr this)
  refine ⟨fun hm=>?_,?_⟩
  ·refine rEA (fun ob e u2_=>?_) (hr.at_ hm);rw[h0] at e;exact nn e
  ·cases e:K.h0.get? b with
   | none=>rfl
   | some o=>rw[hr.keep _ _ e] at h0;cases h0
 have rv1:RVs K ρ s1.heap as cvs:=rvs.mono (List.prefix_refl _) fun b vs e=>hk _ _ e
 obtain ⟨hlen,hval⟩:=Zbm (K:=K) (names:=fd.scope.names) (ρ:=ρ) (h:=s1.heap) (callEnvC fd s.heap.objs.size a).kindOf (fun u_=>rfl) x.nd xs F.ps as cvs (List.replicate F.size .none) ℓ (fun u_=>none) (fun u_=>none) x.ps hst rv1 (fun y i v u_ h=>by
  rw[List.getElem?_replicate] at h;split at h <;> cases h)
 have hcells:(callEnvC fd s.heap.objs.size a).cells=cellsFrom (s.heap.objs.size+1) fd.scope.names []:=rfl
 have hnd:(((callEnvC fd s.heap.objs.size a).cells).map (·.1)).Nodup:=by rw[hcells];exact Xz x.nd (by simp) (by simp)
 have hlook:∀y b,(y,b)∈(callEnvC fd s.heap.objs.size a).cells→(callEnvC fd s.heap.objs.size a).cells.lookup y=some b:=fun y b h=>Jp hnd h
 refine ⟨x.kind,rfl,x.glob,x.blts,⟨_,hin.toInCall.ns,fun y i v h1 h2 h3=>?_⟩,fun y hy=>?_,fun y z i=>Zd8,fun y z b h1 h2=>name_of_addr hin.apart h1 h2,?_,?_,fun y i h=>(W8 h).1,?_,fun y b hb=>?_⟩
 ·have:=hval y i v h2 h3
  have h1':fd.scope.names.lookup y=some .local:=h1
  rw[if_pos h1'] at this
  exact this
 ·have hy':fd.scope.names.lookup y=some .cell:=hy
  have hm:=Qx (n:=s.heap.objs.size+1) (acc:=[]) (.inl (mem_of_lookup hy'))
  refine byC fun hX=>?_;refine rEA (fun hO0 hb hO2=>?_) (List.mem_map.mp hm);obtain ⟨y',b⟩:=hO0;obtain rfl:=hO2;refine hX ?_;clear hX
  refine ⟨b,_,hlook _ b hb,hin.cell _ b (hlook _ b hb),fun i v h2 h3=>?_⟩
  have:=hval _ i v h2 h3
  rw[if_neg (by rw[hy'];decide)] at this
  exact this
 ·exact hnone _ (Nat.le_refl _)
 ·refine Zc2 F.ps as _ ℓ hst (fun i hi => ?_) fun i v u_ h => by
   rw[List.getElem?_replicate] at h;split at h <;> cases h
  refine rEA (fun y u1_ e=>?_) (Zmf x.ps i hi)
  exact (W8 e).1
 ·intro fs hf env he
  refine Jx ((show A.frames.map _=some fs from hf)) fun fs0 h0 e0=>?_
  rw[← e0] at he
  rcases List.mem_cons.mp he with rfl | he
  ·refine Us (fun o' es ep e1 e2 u5_=>?_) hin.toInCall.ns
   refine rA (fun g1 g2=>?_) (hnone _ (Nat.le_refl _))
   exact ⟨by show fd.scope.kind≠.module;rw[x.kind];decide,s.heap.objs.size,o',rfl,g1,g2,e1,es,ep,e2⟩
  ·refine Qf (fun q1 L o' q2 q3 q4 q5 q6=>?_) (ff fs0 h0 env he)
   exact ⟨q1,L,o',q2,q3,q4,hk _ _ q5,q6⟩
 ·have habove : @LT.lt Nat _ s.heap.objs.size b:=hin.above y b hb
  refine rA (fun h1 h2=>?_) (hnone b (Nat.le_of_lt habove))
  refine rEA (fun o' e' hd'=>?_) (hin.cell y b (hlook y b hb))
  exact ⟨h1,h2,Nat.ne_of_gt habove,o',e',fun xs n hv=>by rw[hv] at hd';cases hd'⟩
theorem Zfd {m:Mode}{x:X V}{v:V}(h:gc m σ x=some (.ok v,σ')):∃v1 σ1,x=some (.ok v1,σ1) ∧
  ((v=v1∧σ'=σ1)∨(σ1.take σ.length=σ∧below σ.length v1=true∧v=v1∧σ'=σ)∨(σ1.take σ.length=σ∧∃n l,v1=.obj n∧σ.length≤n∧σ1[n]?=some (.list l)∧belows σ.length l=true∧v=.obj σ.length∧σ'=σ++[.list l])):=by
 cases m with
 | raw=>exact ⟨v,σ',h,.inl ⟨rfl,rfl⟩⟩
 | pure=>
  refine rEA (fun p hx h=>?_) (Option.bind_eq_some_iff.mp (show x.bind _=_ from h));obtain ⟨r,σ1⟩:=p
  cases r with
  | ok v1=>refine rA (fun hc h=>?_) (Jf (show gcP σ (.ok v1) σ1=_ from h));refine okE h ?_;exact ⟨_,_,hx,.inr (.inl ⟨hc.1,hc.2,rfl,rfl⟩)⟩
  | exc c=>exact seo (Jf (show gcP σ (.exc c) σ1=_ from h)).2
 | fresh=>
  refine rEA (fun p hx h=>?_) (Option.bind_eq_some_iff.mp (show x.bind _=_ from h));obtain ⟨r,σ1⟩:=p
  cases r with
  | ok v1=>
   refine rEA (fun n hn h=>?_) (Option.bind_eq_some_iff.mp (show (X9 v1).bind _=_ from h))
   refine rA (fun ht h=>?_) (Jf h)
   have hv:=W6 hn
   by_cases hlt:n<σ.length
   ·rw[if_pos hlt] at h;refine okE h ?_;exact ⟨_,_,hx,.inr (.inl ⟨ht,by rw[hv];exact decide_eq_true hlt,hv.symm,rfl⟩)⟩
   ·rw[if_neg hlt] at h
    refine rEA (fun l hl h=>?_) (Option.bind_eq_some_iff.mp h)
    refine rA (fun hb h=>?_) (Jf h)
    refine okE h ?_;exact ⟨_,_,hx,.inr (.inr ⟨ht,n,l,hv,Nat.le_of_not_lt hlt,Zot hl,hb,rfl,rfl⟩)⟩
  | exc c=>exact nn h
theorem Zjc {v1:V}{cv:Value}(hr:HR K ρ σ s.heap)(hr1:HR K ρ1 σ1 s1.heap)(st:Step ρ s ρ1 s1)(rv:RV K ρ1 s1.heap v1 cv){m:Mode}{x:X V}{v:V}(hx:x=some (.ok v1,σ1))(h:gc m σ x=some (.ok v,σ')) :
  ∃ρ',Good K ρ s ρ' σ' s1∧RV K ρ' s1.heap v cv:=by
 refine Jz (fun v2 σ2 e h=>?_) (Zfd h)
 rw[hx] at e;refine byC fun hX=>?_;refine rA (fun hO0 hO1=>?_) (okJ e);obtain rfl:=hO0;obtain rfl:=hO1;refine hX ?_;clear hX
 rcases h with ⟨rfl,rfl⟩ | ⟨ht,hb,rfl,rfl⟩ | ⟨ht,n,l,rfl,hn,hl,hb,rfl,rfl⟩
 ·exact ⟨ρ1,⟨hr1,st⟩,rv⟩
 ·refine ⟨ρ,⟨hr.cut hr1 st.pre ht,⟨List.prefix_refl _,st.fr,fun u_ h=>.inl h,st.gens,st.os⟩⟩,rv.cut st.pre (by rw[hr.len];exact hb)⟩
 ·refine byC fun hX=>?_;refine rEA (fun a hO1 ha=>?_) (rv.objI rfl);obtain rfl:=hO1;refine hX ?_;clear hX
  refine Ym (fun vs k e r hle=>?_) (hr1.obj n _ a hl ha)
  have hcut:=hr.cut hr1 st.pre ht
  have haρ:a ∉ ρ:=fun hm=>by
   refine rE (fun j hO1=>?_) (List.getElem_of_mem hm);obtain ⟨hj,e'⟩:=hO1
   have h2:ρ1[j]?=some a:=Wb st.pre (by rw[List.getElem?_eq_getElem hj,e'])
   have:=(List.getElem?_inj (List.getElem?_eq_some_iff.mp h2).1 hr1.nd).mp (h2.trans ha.symm)
   rw[hr.len] at hj;lia
  refine ⟨ρ++[a],⟨⟨hr1.keep,by simp[hr.len],?_,fun b hb'=>?_,fun j o b h1 h2=>?_⟩,⟨List.prefix_append _ _,st.fr,fun b hb'=>?_,st.gens,st.os⟩⟩,.obj ?_⟩
  ·rw[List.nodup_append];exact ⟨hr.nd,by simp,fun b hb' z hz e=>by simp at hz;exact haρ (hz▸e▸hb')⟩
  ·rcases List.mem_append.mp hb' with h | h
   ·exact hr.new b h
   ·rw[List.mem_singleton.mp h];exact hr1.new a (List.mem_of_getElem? ha)
  ·by_cases hlt:j<σ.length
   ·rw[List.getElem?_append_left hlt] at h1
    rw[List.getElem?_append_left (by rw[hr.len];exact hlt)] at h2
    exact (hcut.obj j o b h1 h2).mono (List.prefix_append _ _) fun u_ v_ e=>e
   ·have hj':j=σ.length:=by have:=(List.getElem?_eq_some_iff.mp h1).1;simp at this;lia
    subst hj'
    rw[List.getElem?_append_right (Nat.le_refl _)] at h1
    rw[List.getElem?_append_right (by rw[hr.len];exact Nat.le_refl _)] at h2
    simp[hr.len] at h1 h2
    rw[← h1,← h2]
    exact ⟨vs,k,e,(r.cut st.pre (by rw[hr.len];exact hb)).mono (List.prefix_append _ _) (fun u_ v_ e=>e),hle⟩
  ·rcases List.mem_append.mp hb' with h | h
   ·exact .inl h
   ·rw[List.mem_singleton.mp h]
    rcases st.fresh a (List.mem_of_getElem? ha) with h | h
    ·exact .inl h
    ·exact .inr h
  ·rw[List.getElem?_append_right (by rw[hr.len];exact Nat.le_refl _),hr.len];simp
theorem Zmh {m:Mode}{x:X V}{k:Nat}(h:gc m σ x=some (.exc k,σ')):∃σ1,x=some (.exc k,σ1)∧(σ'=σ1∨(σ1.take σ.length=σ∧σ'=σ)):=by
 cases m with
 | raw=>exact ⟨σ',h,.inl rfl⟩
 | pure=>
  refine rEA (fun p hx h=>?_) (Option.bind_eq_some_iff.mp (show x.bind _=_ from h));obtain ⟨r,σ1⟩:=p
  cases r with
  | ok v1=>exact soe (Jf (show gcP σ (.ok v1) σ1=_ from h)).2
  | exc c=>refine rA (fun hc h=>?_) (Jf (show gcP σ (.exc c) σ1=_ from h));refine exE h ?_;exact ⟨_,hx,.inr ⟨hc,rfl⟩⟩
 | fresh=>
  refine rEA (fun p hx h=>?_) (Option.bind_eq_some_iff.mp (show x.bind _=_ from h));obtain ⟨r,σ1⟩:=p
  cases r with
  | ok v1=>
   refine rEA (fun n hn h=>?_) (Option.bind_eq_some_iff.mp (show (X9 v1).bind _=_ from h))
   have h:=(Jf h).2
   by_cases hlt:n<σ.length
   ·rw[if_pos hlt] at h;exact soe h
   ·rw[if_neg hlt] at h
    exact rEA (fun l hl h=>soe (Jf h).2) (Option.bind_eq_some_iff.mp h)
  | exc c=>exact nn h
theorem Fly.back {X:List Addr}{outer:List Env}{cv ev:Value}{P:Heap→Prop}(hr:HR K ρ σ s.heap)(fl:Fly K X ρ s1 ρ' σ1 outer cv P ev h)(hs:∀G,StepX X ρ s1 ρ' { s1 with heap:=G }→Step ρ s ρ' { s with heap:=G })
  (hg:σ'=σ1∨(σ1.take σ.length=σ∧σ'=σ)):∃ρ2,Fly K [] ρ s ρ2 σ' outer cv (fun u_=>True) ev h:=by
 revert fl;refine Zd1 fun G B t e he hP hrG st r=>?_
 have st:=hs G st
 rcases hg with rfl | ⟨ht,rfl⟩
 ·exact ⟨ρ',G,B,t,e,he,trivial,hrG,st.toX _,r⟩
 ·exact ⟨ρ,G,B,t,e,he,trivial,hr.cut hrG st.pre ht,⟨List.prefix_refl _,fun b o q hb u_=>st.fr b o q hb,fun u_ h=>.inl h,rfl,rfl⟩,r⟩
theorem Zfe {y:Y}{k:Nat}(h:Xs y=some (.exc k,σ1)):∃ℓ,y=some (.exc k,ℓ,σ1):=by
 cases y with
 | none=>exact nn h
 | some z=>obtain ⟨f,ℓ,σ2⟩:=z;cases f <;> cases h;exact ⟨ℓ,rfl⟩
structure PK (K:Kx)(T:Tabs)(pg:Pg):Prop where
 G:GK K T
 ty:TyOK K
 wk:WK K T pg
 ek:EK K T
 fn:∀f F,pg.fn f=some F→Zss K T f F
 nl:K.h0.NoLimit
 sort:∀x,T.blts.lookup x=some .sorted→∀A,Rm 0 A→Zfc K A
 lo:T.loops=true
set_option tactic.hygienic true in
theorem Zd9 {pg:Pg}(pk:PK K T pg):∀(d:Nat) (A:Around),Rm d A→CallB K A ⟨pg,Zh pg d⟩
 | 0,A,_=>fun f vs σ v σ' h=>by exact nn h
 | d+1,A,rm=>by
  have again:=Zd9 pk d
  intro f vs σ v σ' he ρ s cvs hr rvs ff
  refine rEA (fun F hF he=>?_) (Option.bind_eq_some_iff.mp (show (pg.fn f).bind _=_ from he))
  refine rEA (fun ℓ hst he=>?_) (Option.bind_eq_some_iff.mp he)
  refine Jw (fun o fd body xs x=>?_) (pk.fn f F hF)
  have hlen:cvs.length=xs.length:=by
   have:=(Zbm (K:=K) (ρ:=ρ) (h:=s.heap) (fun y=>fd.scope.names.lookup y) (fun u_=>rfl) x.nd xs F.ps vs cvs (List.replicate F.size .none) ℓ (fun u_=>none) (fun u_=>none) x.ps hst rvs (fun y i v u_ h=>by
    rw[List.getElem?_replicate] at h;split at h <;> cases h)).1
   exact this.symm
  have hcode:K.h0.CodeRec fd.code fd.qualname:=x.code
  refine wpAny_call (codeAny_call_cells (by have:=rm.depth;lia) (hr.keep _ _ x.ho) x.data (pk.nl.keeps hr.keep) (hcode.keeps hr.keep) x.bodyE (x.bind cvs hlen) x.clo (fun y hy=>?_) (fun s1 hin=>?_) x.co x.gen x.kind)
  ·have hyx:y.1∈xs:=(List.of_mem_zip (a:=y.1) (b:=y.2) hy).1
   refine rE (fun i hi=>?_) (Zgy x.ps _ hyx)
   rcases Zc1 x.nd hi with h | h
   ·exact .inl h
   ·right
    refine ⟨h,?_⟩
    have hm:=Qx (n:=s.heap.objs.size+1) (acc:=[]) (.inl (mem_of_lookup h))
    refine rEA (fun hO0 hb e=>?_) (List.mem_map.mp hm);obtain ⟨y',b⟩:=hO0
    have hnd:((cellsFrom (s.heap.objs.size+1) fd.scope.names []).map (·.1)).Nodup:=Xz x.nd (by simp) (by simp)
    have hl:=Jp hnd hb
    have e':y'=y.1:=e
    rw[← e',hl];rfl
  ·have fo:=Zmg (A:=A) x hst hr rvs hin ff
   have rm':=rm.deeper (callEnvC fd s.heap.objs.size (K.fna f))
   have hyy:HX K (A.deeper (callEnvC fd s.heap.objs.size (K.fna f))) ⟨pg,Zh pg d⟩ T:=⟨pk.G,pk.ty,by have:=rm'.units;lia,fun u_=>⟨rm'.handled,again _ rm',fun C vs=>(again _ (rm.under _ C vs)).ok⟩,fun u_ v_ w_ x_ y_=>rm'.handled,fun x hx=>pk.sort x hx _ ⟨rm'.handled,by have:=rm'.depth;lia,by have:=rm'.units;lia,rm'.fr⟩,pk.wk,pk.ek⟩
   refine rEE (fun h1 tk1 es1=>?_) hin.toInCall.same
   have hr1:HR K ρ σ s1.heap:=hr.grow hin.toInCall.keep
   have st0:Step ρ s ρ s1:=⟨List.prefix_refl _,fun b o e u_=>Ws hin.toInCall.keep e,fun u_ h=>.inl h,by rw[es1],by rw[es1]⟩
   refine rE (fun outer hout=>?_) rm.fr
   have hfr:(A.deeper (callEnvC fd s.heap.objs.size (K.fna f))).frames=some (callEnvC fd s.heap.objs.size (K.fna f)::outer):=by show A.frames.map _=_;rw[hout];rfl
   cases hbody:execs ⟨pg,Zh pg d⟩ F.body ℓ σ with
   | none=>rw[hbody] at he;cases hm:F.mode <;> rw[hm] at he <;> exact nn he
   | some y=>
    refine byC fun hX=>?_;obtain ⟨fl,ℓ2,σ2⟩:=y;refine hX ?_;clear hX
    rw[hbody] at he
    have hnew:∀b∈Yl (callEnvC fd s.heap.objs.size (K.fna f)),s.heap.get? b=none:=by
     intro b hb
     have hge : @LE.le Nat _ s.heap.objs.size b:=by
      rcases Zai hb with rfl | ⟨y,hy⟩
      ·exact Nat.le_refl _
      ·exact Nat.le_of_lt (hin.above y b hy)
     cases e:s.heap.get? b with
     | none=>rfl
     | some o=>have:=Heap.lt_size e;exact absurd hge (Nat.not_le.mpr this)
    have stt:∀ρ2 s2,StepX (Yl (callEnvC fd s.heap.objs.size (K.fna f))) ρ s1 ρ2 s2→Step ρ s ρ2 s2:=fun ρ2 s2 st2=>by
     refine ⟨st2.pre,fun b o e hb=>st2.fr b o (Ws hin.toInCall.keep e) hb fun hX=>?_,fun b hb=>?_,st2.gens.trans st0.gens,st2.os.trans st0.os⟩
     ·rw[ng_none.mpr (hnew b hX)] at e;exact nn e
     ·rcases st2.fresh b hb with h | h
      ·exact .inl h
      ·right
       cases e:s.heap.get? b with
       | none=>rfl
       | some o=>rw[hin.toInCall.keep b o e] at h;exact ns h
    refine wpAny_mono (x.comp _ _ _ hyy ⟨outer,hfr⟩ ℓ σ fl ℓ2 σ2 hbody ρ s1 hr1 fo) (fun cf s2 hq=>?_) fun ev s2 hq=>?_
    ·revert hq;refine Q4 fun ρ2 hr2 st2 fo2 frr=>?_
     have st:=stt ρ2 s2 st2
     cases v with
     | exc k=>
      refine rEA (fun τ hτ u2_=>?_) (Zmh he)
      refine rE (fun ℓx hx=>?_) (Zfe hτ)
      refine byC fun hX=>?_;refine rAA (fun hO0 hO1 hO2=>?_) (pJ3 hx);obtain rfl:=hO0;obtain rfl:=hO1;obtain rfl:=hO2;refine hX ?_;clear hX
      cases cf <;> exact frr.elim
     | ok v=>
      cases fl with
      | next=>
       cases cf with
       | next=>refine rEA (fun ρ' g r=>?_) (Zjc hr hr2 st .none rfl he);exact ⟨v,ρ',rfl,g,r⟩
       | _=>exact frr.elim
      | brk=>refine Jz (fun u0_ u1_ e u3_=>?_) (Zfd he);exact nn e
      | ret w=>
       cases cf with
       | ret cw=>refine rEA (fun ρ' g r=>?_) (Zjc hr hr2 st frr rfl he);exact ⟨v,ρ',rfl,g,r⟩
       | _=>exact frr.elim
      | exc k=>refine Jz (fun u0_ u1_ e u3_=>?_) (Zfd he);exact seo e
    ·refine byC fun hX=>?_;revert hq;refine Zlg fun k hO1 hgens hos ρ2 hu=>?_;obtain rfl:=hO1;refine hX ?_;clear hX
     cases v with
     | ok v=>refine Jz (fun u0_ u1_ e u3_=>?_) (Zfd he);exact seo e
     | exc j=>
      refine rEA (fun τ hτ hg=>?_) (Zmh he)
      refine byC fun hX=>?_;refine rA (fun hO0 hO1=>?_) (exJ hτ);obtain rfl:=hO0;obtain rfl:=hO1;refine hX ?_;clear hX
      have fin:∀h',Fly K (Yl (callEnvC fd s.heap.objs.size (K.fna f))) ρ s1 ρ2 σ2 outer (K.tyv k) (FO K (A.deeper (callEnvC fd s.heap.objs.size (K.fna f))) (callEnvC fd s.heap.objs.size (K.fna f)) (fnC fd.scope) ℓ2 ρ2) ev h'→∃i,R.exc k=(R.exc i:R V)∧Flies K A ρ s σ' i ev { s2 with heap:=h' }:=fun h' fl=>by
       refine rE (fun ρ3 fl3=>?_) (fl.back hr (fun G st2=>let st:=stt ρ2 _ st2;⟨st.pre,st.fr,st.fresh,rfl,rfl⟩) hg)
       exact ⟨k,rfl,hgens.trans st0.gens,hos.trans st0.os,ρ3,fun fs hfs=>by rw[hout] at hfs;obtain rfl:=Option.some.inj hfs;exact fl3⟩
      rcases hu outer hfr with fl | ⟨_,G,e,args,rfl,hP,hrG,stG,hm⟩
      ·refine Ziv (fun u0_ L u2_ hf u4_=>?_) (fo.ff _ hfr _ List.mem_cons_self)
       exact Zl1 hfr hf fl fin
      ·exact Zks hfr hP.ff hrG hP stG hm fin
theorem Zh5 {pg:Pg}(pk:PK K T pg)(d:Nat)(A:Around)(rm:Rm d A):Ze8 K A ⟨pg,Zh pg d⟩:=(Zd9 pk d A rm).ok
end
end Mini.Internal
namespace Mini.Internal
open PySem PyProof.Rows PySem.SeqAt PySem.Calls
variable {ρ ρ' ρ1:List Addr}{σ σ' σ1:H}{s s' s1:Shared}{h h':Heap}{ℓ ℓ':L}
theorem Zgz {α β:Type}{f g:α→Option β}:∀{l:List α},(∀x∈l,f x=g x)→l.filterMap f=l.filterMap g
 | [],_=>rfl
 | x::l,h=>by rw[List.filterMap_cons,List.filterMap_cons,h x List.mem_cons_self,Zgz fun y hy=>h y (List.mem_cons_of_mem _ hy)]
theorem Zam:∀{xs:List Str}{vals:List Value},xs.Nodup→vals.length=xs.length→xs.filterMap (fun n=>((xs.zip vals).lookup n).map (n,·))=xs.zip vals
 | [],[],_,_=>rfl
 | [],_::_,_,h=>by cases h
 | _::_,[],_,h=>by cases h
 | x::xs,v::vs,hn,h=>by
  rw[List.nodup_cons] at hn
  have ih:=Zam hn.2 (by simpa using h)
  rw[List.zip_cons_cons,List.filterMap_cons]
  have e1:((x,v)::xs.zip vs).lookup x=some v:=by simp[List.lookup_cons]
  rw[e1]
  simp only[Option.map_some]
  congr 1
  rw[← ih]
  refine Zgz fun y hy=>?_
  have hne:(y == x)=false:=by simp;rintro rfl;exact hn.1 hy
  rw[List.lookup_cons,hne]
  simp only
  rw[ih]
theorem Zff:∀{xs:List Str}{vals:List Value},vals.length=xs.length→∀x∈xs,((xs.zip vals).lookup x).isNone=false
 | [],_,_,x,hx=>by cases hx
 | _::_,[],h,_,_=>by cases h
 | y::xs,v::vs,h,x,hx=>by
  rw[List.zip_cons_cons,List.lookup_cons]
  cases hb:x == y with
  | true=>rfl
  | false=>
   rcases List.mem_cons.mp hx with rfl | hx
   ·simp at hb
   ·exact Zff (by simpa using h) x hx
noncomputable def Ua (p:Arguments):Bool:=p.posonlyargs.isEmpty&&p.kwonlyargs.isEmpty&&p.vararg.isNone&&p.kwarg.isNone&&decide (p.args.map (·.arg)).Nodup
theorem Zh6 {name:Str}{p:Arguments}{body:List Stmt}{scope:Scope}{pm code doc:Value}(h:Ua p=true)(vals:List Value)(hl:vals.length=(p.args.map (·.arg)).length) :
  bindArgs (docDef name p body scope pm code doc) ⟨vals,[]⟩=pure ((p.args.map (·.arg)).zip vals):=by
 refine byC fun hX=>?_;obtain ⟨po,as,va,kwo,kd,kw,df⟩:=p;refine hX ?_;clear hX
 simp only[Ua,Bool.and_eq_true,List.isEmpty_iff,Option.isNone_iff_eq_none,decide_eq_true_eq] at h
 revert h;refine rA fun hO0 hn=>?_;obtain ⟨⟨⟨rfl,rfl⟩,rfl⟩,rfl⟩:=hO0
 simp only at hl hn
 have hm:((as.map (·.arg)).take ((as.map (·.arg)).length)).filter (fun n=>(((as.map (·.arg)).zip vals).lookup n).isNone)=[]:=by
  rw[List.filter_eq_nil_iff]
  intro x hx
  rw[List.take_length] at hx
  simp[Zff hl x hx]
 have hz:=Zam hn hl
 have hlen:¬ (decide (vals.length>(as.map (·.arg)).length)&&true)=true:=by rw[hl];simp
 have hzip:∀(l:List Str) (k:Nat),l.zip (List.drop k ([]:List Value))=[]:=fun l k=>by rw[List.drop_nil,List.zip_nil_right]
 refine Eq.trans (b:=ite ((decide (vals.length>(as.map fun x:Arg=>x.arg).length)&&true)=true) _ _) rfl ?_
 refine (if_neg hlen).trans ?_
 refine (if_neg ?hc).trans ?_
 case hc=>
  show ¬ (!(((as.map fun x:Arg=>x.arg).take ((as.map fun x:Arg=>x.arg).length-(List.drop (0-(as.map fun x:Arg=>x.arg).length) ([]:List Value)).length)).filter (fun n=>(((as.map fun x:Arg=>x.arg).zip vals).lookup n).isNone)).isEmpty)=true
  rw[List.drop_nil,List.length_nil,Nat.sub_zero,hm];simp
 refine Eq.trans (b:=forIn (((as.map fun x:Arg=>x.arg).drop ((as.map fun x:Arg=>x.arg).length-(List.drop (0-(as.map fun x:Arg=>x.arg).length) ([]:List Value)).length)).zip (List.drop (0-(as.map fun x:Arg=>x.arg).length) ([]:List Value))) _ _ >>= _) rfl ?_
 rw[hzip]
 refine Eq.trans (b:=pure (((as.map fun x:Arg=>x.arg)++[]).filterMap fun n=>(((as.map fun x:Arg=>x.arg).zip vals).lookup n).map (n,·))) rfl ?_
 rw[List.append_nil,hz]
theorem Zkv {name qual:Str}{p:Arguments}{body:List Stmt}{scope:Scope}{pm code doc:Value}(h:Ua p=true)(vals:List Value)(hl:vals.length=(p.args.map (·.arg)).length) :
  bindArgs (methDef name qual p body scope pm code doc) ⟨vals,[]⟩=pure ((p.args.map (·.arg)).zip vals):=by
 refine byC fun hX=>?_;obtain ⟨po,as,va,kwo,kd,kw,df⟩:=p;refine hX ?_;clear hX
 simp only[Ua,Bool.and_eq_true,List.isEmpty_iff,Option.isNone_iff_eq_none,decide_eq_true_eq] at h
 revert h;refine rA fun hO0 hn=>?_;obtain ⟨⟨⟨rfl,rfl⟩,rfl⟩,rfl⟩:=hO0
 simp only at hl hn
 have hm:((as.map (·.arg)).take ((as.map (·.arg)).length)).filter (fun n=>(((as.map (·.arg)).zip vals).lookup n).isNone)=[]:=by
  rw[List.filter_eq_nil_iff]
  intro x hx
  rw[List.take_length] at hx
  simp[Zff hl x hx]
 have hz:=Zam hn hl
 have hlen:¬ (decide (vals.length>(as.map (·.arg)).length)&&true)=true:=by rw[hl];simp
 have hzip:∀(l:List Str) (k:Nat),l.zip (List.drop k ([]:List Value))=[]:=fun l k=>by rw[List.drop_nil,List.zip_nil_right]
 refine Eq.trans (b:=ite ((decide (vals.length>(as.map fun x:Arg=>x.arg).length)&&true)=true) _ _) rfl ?_
 refine (if_neg hlen).trans ?_
 refine (if_neg ?hc).trans ?_
 case hc=>
  show ¬ (!(((as.map fun x:Arg=>x.arg).take ((as.map fun x:Arg=>x.arg).length-(List.drop (0-(as.map fun x:Arg=>x.arg).length) ([]:List Value)).length)).filter (fun n=>(((as.map fun x:Arg=>x.arg).zip vals).lookup n).isNone)).isEmpty)=true
  rw[List.drop_nil,List.length_nil,Nat.sub_zero,hm];simp
 refine Eq.trans (b:=forIn (((as.map fun x:Arg=>x.arg).drop ((as.map fun x:Arg=>x.arg).length-(List.drop (0-(as.map fun x:Arg=>x.arg).length) ([]:List Value)).length)).zip (List.drop (0-(as.map fun x:Arg=>x.arg).length) ([]:List Value))) _ _ >>= _) rfl ?_
 rw[hzip]
 refine Eq.trans (b:=pure (((as.map fun x:Arg=>x.arg)++[]).filterMap fun n=>(((as.map fun x:Arg=>x.arg).zip vals).lookup n).map (n,·))) rfl ?_
 rw[List.append_nil,hz]
noncomputable def Zpa (x:Str):Option Nat:=fnNames.lookup x
noncomputable def Zfg (n:Nat):Option Str:=(fnNames.find? (fun p=>p.2 == n)).map (·.1)
noncomputable def Zc3 (m:Nat):Option Str:=(methNames.find? (fun p=>p.2 == m)).map (·.1)
noncomputable def ownNames : List (Str × Nat) := [(Str.ofString "SpanError", 10), (Str.ofString "BadStretch", 11), (Str.ofString "Twice", 12), (Str.ofString "Missing", 13)]
noncomputable def Zjd : Str := Str.ofString "Wood"
noncomputable def Qa (bl : List (Str × Blt)) (ds : List DefRec) : Tabs := ⟨ds.filterMap (fun d => (Zpa d.name).map (d.name, ·)), tyNames, bl, [(Zjd, 0)], methNames, [(Str.ofString "top", 0), (Str.ofString "many", 1)], ownNames, true⟩
noncomputable def CF (T:Tabs)(as:Arguments)(sc:Scope)(body:List Stmt):Type:={ F:Fn // (as.args.map (·.arg)).mapM (fun x=>(Yr sc.names).lookup x)=some F.ps∧(Zb0 sc.names).length≤F.size∧∀(K:Kx) (A:Around) (cl:Cl) (env:Env),HX K A cl T→(∃outer,A.frames=some (env::outer))→PSs K A T env (fnC sc) cl body F.body }
noncomputable def cFn (T:Tabs)(mode:Mode)(extra:Nat)(as:Arguments)(sc:Scope)(body:List Stmt):Option (CF T as sc body) :=
 J3 ((as.args.map (·.arg)).mapM fun x=>(Yr sc.names).lookup x) fun ps hps=>(cSs body T (fnC sc)).bind fun b=>some ⟨⟨ps,(Zb0 sc.names).length+extra,b.1,mode⟩,hps,Nat.le_add_right _ _,b.2⟩
noncomputable def Zpb (bl:List (Str×Blt))(md:Nat→Mode)(ds:List DefRec)(n:Nat):Option Fn:=match ds.find? (fun d=>Zpa d.name == some n) with
 | some d=>(cFn (Qa bl ds) (md n) 8 d.params d.scope d.body).map (·.1)
 | none=>none
noncomputable def Zpc (bl:List (Str×Blt))(md:Nat→Mode)(ds:List DefRec)(ms:List MethRec)(m:Nat):Option Fn:=match ms.find? (fun r=>methNames.lookup r.name == some m) with
 | some r=>(cFn (Qa bl ds) (md (70+m)) 8 r.params r.scope r.body).map (·.1)
 | none=>none
noncomputable def Zg0 (ms:List MethRec)(m:Nat):Bool:=ms.any fun r=>methNames.lookup r.name == some m
noncomputable def Zpd (bl:List (Str×Blt))(md:Nat→Mode)(ds:List DefRec)(ms:List MethRec):Pg :=
 ⟨fun n=>if n<70 then Zpb bl md ds n else Zpc bl md ds ms (n-70),fun c m=>if c == 0&&Zg0 ms m then some (70+m) else none,fun c=>if c == 0&&Zg0 ms 0 then some 70 else none⟩
noncomputable def Za3 (d:DefRec):Bool:=Ua d.params&&d.scope.kind == .function && !d.scope.isCoroutine && !d.scope.isGenerator&&decide (d.scope.names.map (·.1)).Nodup&&(match Zpa d.name with
 | some n=>Zfg n == some d.name&&decide (n<70)
 | none=>false)
noncomputable def W9 (d:MethRec):Bool:=Ua d.params&&d.scope.kind == .function && !d.scope.isCoroutine && !d.scope.isGenerator&&decide (d.scope.names.map (·.1)).Nodup&&(match methNames.lookup d.name with
 | some n=>Zc3 n == some d.name
 | none=>false)
noncomputable def adr:Option Value→Addr
 | some (.ref a)=>a
 | _=>0
noncomputable def Jj (mg mN:Str→Option Value)(n:Nat):Addr:=if n<70 then adr ((Zfg n).bind mg) else adr ((Zc3 (n-70)).bind mN)
noncomputable def Zje (k:Nat):Option Str:=(ownNames.find? (fun p=>p.2 == k)).map (·.1)
noncomputable def Xa (mg:Str→Option Value):Nat→Value
 | 0 => .type "int"
 | 1 => .type "bool"
 | 2 => .type "tuple"
 | 3 => .type "list"
 | 4 => .type "ValueError"
 | n=>((Zje n).bind fun x=>(mg x).bind fun v=>match v with | .ref a=>some (Value.ref a) | _=>none).getD .none
noncomputable def Qb (C:Addr)(n:Nat):Value:=if n=0 then .ref C else .none
noncomputable def Zfh (p:Program)(loose:List Str):Bool:=(tyNames.map (·.1)++bltNames.map (·.1)++[Wk]).all fun x=>
 !startupNames.contains x && !loose.contains x && !((recsOf p).map (·.name)).contains x && !((litsOf p).map (·.1)).contains x && !((clssOf p loose).map (·.name)).contains x && !(x == ("__name__" : Str))
theorem Un {α:Type}{P:α→Prop}{a:α}{l:List α}(h:P a)(k:∀x,x∈l→P x):∀x,x∈a::l→P x:=fun x hx=>(List.mem_cons.mp hx).elim (fun e=>e▸h) (k x)
theorem Zpe {mg:Str→Option Value}{x:Str}{t:Nat}(h:tyNames.lookup x=some t):bootBuiltins x=some (Xa mg t) :=
 (show ∀p,p∈tyNames→bootBuiltins p.1=some (Xa mg p.2) from Un rfl (Un rfl (Un rfl (Un rfl (Un rfl nofun))))) _ (mem_of_lookup h)
theorem Zmi {x:Str}{b:Blt}(h:bltNames.lookup x=some b):bootBuiltins x=some (Zbj b) :=
 (show ∀p,p∈bltNames→bootBuiltins p.1=some (Zbj p.2) from Un rfl (Un rfl (Un rfl (Un rfl (Un rfl (Un rfl (Un rfl (Un rfl nofun)))))))) _ (mem_of_lookup h)
theorem Zh7 : bootBuiltins Wk = some (.type "range") := rfl
section
variable {p:Program}{loose:List Str}{mean:ExcName→Option Value}{mg mb:Str→Option Value}{h:Heap}
theorem Zmj (T0:Top p loose mean mg mb h)(hf:Zfh p loose=true){x:Str}(hx:x∈tyNames.map (·.1)++bltNames.map (·.1)++[Wk]):mg x=none∧mb x=bootBuiltins x:=by
 have:=List.all_eq_true.mp hf x hx
 simp only[Bool.and_eq_true,Bool.not_eq_true',List.contains_eq_mem,decide_eq_false_iff_not,beq_eq_false_iff_ne] at this
 revert this;refine rA fun hO0 h6=>?_;revert hO0;refine rA fun hO0 h5=>?_;obtain ⟨⟨⟨h1,h2⟩,h3⟩,h4⟩:=hO0
 exact ⟨T0.free x h1 h2 h3 h4 h5,T0.builtins x h6⟩
theorem Zc4 {α:Type}{l:List (Str×α)}{x:Str}{a:α}(h:l.lookup x=some a):x∈l.map (·.1):=List.mem_map.mpr ⟨_,mem_of_lookup h,rfl⟩
theorem Zh8 {mN:Str→Option Value}{x:Str}{n:Nat}{a:Addr}(hn:n<70)(h1:Zfg n=some x)(h2:mg x=some (.ref a)):Jj mg mN n=a:=by unfold Jj;rw[if_pos hn,h1];show adr (mg x)=a;rw[h2];rfl
theorem Zqi {mN:Str→Option Value}{x:Str}{m:Nat}{a:Addr}(h1:Zc3 m=some x)(h2:mN x=some (.ref a)):Jj mg mN (70+m)=a:=by
 unfold Jj
 rw[if_neg (by exact ln1 [] (.no (.lt (.a (.k 70) .v0) (.k 70))) (.d 11) rfl),Nat.add_sub_cancel_left,h1];show adr (mN x)=a;rw[h2];rfl
noncomputable def CNone (h:Heap)(N:Addr):Prop:=∃m,h.Ns N m∧m Zn8=none
theorem CNone.keeps {N:Addr}(x:CNone h N)(k:∀b o,h.get? b=some o→h'.get? b=some o):CNone h' N:=x.elim fun m q=>⟨m,q.1.keeps k,q.2⟩
structure SubAt (mg:Str→Option Value)(h:Heap)(x:Str)(C D:Addr)(cd dd:ClassData):Prop where
 c1:mg x=some (.ref C)
 d1:mg Zld=some (.ref D)
 c2:∃o,h.get? C=some o∧o.data=.cls cd
 d2:∃o,h.get? D=some o∧o.data=.cls dd
 mro:cd.mro=.ref C::.ref D::bmV
 cn:CNone h cd.ns
 dn:CNone h dd.ns
 ne:C≠D
 far:∀y∈subs,y≠x→mg y≠some (.ref C)
noncomputable def Sub (mg:Str→Option Value)(h:Heap):Prop:=∀x∈subs,∃C D cd dd,SubAt mg h x C D cd dd
theorem Zqj {N:Addr}(h:(s.heap.isNs N&&(s.heap.nsMap N Zn8).isNone)=true):CNone s.heap N:=⟨_,.of_isNs (Ud h),Option.isNone_iff_eq_none.mp (W2 h)⟩
set_option tactic.hygienic true in
theorem sub_of (e:Zqf s=true):Sub (s.heap.nsMap mainGlobals) s.heap:=fun x hx=>by
 have:=List.all_eq_true.mp e x hx
 split at this
 ·rename_i y z h1 h2
  refine byC fun hX=>?_;obtain ⟨C,o,cd⟩:=y;refine hX ?_;clear hX
  refine byC fun hX=>?_;obtain ⟨D,o',dd⟩:=z;refine hX ?_;clear hX
  refine rAA (fun q1 q2 q3=>?_) (Heap.clsAt_spec h1)
  refine rAA (fun r1 r2 r3=>?_) (Heap.clsAt_spec h2)
  have t6:(C == D)=false:=(Bool.not_eq_true' _).mp (W2 (Ud this))
  refine ⟨C,D,cd,dd,q1,r1,⟨o,q2,q3⟩,⟨o',r2,r3⟩,eq_of_beq (Ud (Ud (Ud (Ud this)))),Zqj (W2 (Ud (Ud (Ud this)))),Zqj (W2 (Ud (Ud this))),ne_of_beq_false t6,fun y hy hne h=>?_⟩
  have:=List.all_eq_true.mp (W2 this) y hy
  rw[beq_false_of_ne hne,h,beq_self_eq_true] at this
  exact ft this
 ·exact ft this
theorem Sub.keeps {mg:Str→Option Value}(x:Sub mg h)(k:∀b o,h.get? b=some o→h'.get? b=some o):Sub mg h':=fun y hy=>
 Jw (fun C D cd dd S=>⟨C,D,cd,dd,S.c1,S.d1,S.c2.elim fun o q=>⟨o,k _ _ q.1,q.2⟩,S.d2.elim fun o q=>⟨o,k _ _ q.1,q.2⟩,S.mro,S.cn.keeps k,S.dn.keeps k,S.ne,S.far⟩) (x y hy)
noncomputable def Zfi (p : Program) : Bool := ownNames.all fun q => specOf p q.1 == some ("ValueError.__new__", [.type "ValueError", .type "Exception", .type "BaseException", .type "object"])
theorem Zst (x : Str) : ∃ y, typeLookup (.type "object") x = pure y := by
 rw[typeLookup_type]
 unfold builtinLookup
 have : builtinMro "object" = some [.type "object"] := by kernel_rfl
 rw[this]
 exact ⟨_,rfl⟩
section
variable {C N:Addr}{mN:Str→Option Value}{cr:ClsRec}
theorem Zc5 {x:Str}{k:Nat}{a:Addr}(h:ownNames.lookup x=some k)(hm:mg x=some (.ref a)):Xa mg k=.ref a:=by
 have hm':=mem_of_lookup h
 simp only[ownNames,List.mem_cons,List.not_mem_nil,or_false,Prod.mk.injEq] at hm'
 rcases hm' with ⟨rfl,rfl⟩ | ⟨rfl,rfl⟩ | ⟨rfl,rfl⟩ | ⟨rfl,rfl⟩
 ·show (((mg (Str.ofString "SpanError")).bind fun v => match v with | .ref a => some (Value.ref a) | _ => none).getD .none) = _; rw [hm]; rfl
 ·show (((mg (Str.ofString "BadStretch")).bind fun v => match v with | .ref a => some (Value.ref a) | _ => none).getD .none) = _; rw [hm]; rfl
 ·show (((mg (Str.ofString "Twice")).bind fun v => match v with | .ref a => some (Value.ref a) | _ => none).getD .none) = _; rw [hm]; rfl
 ·show (((mg (Str.ofString "Missing")).bind fun v => match v with | .ref a => some (Value.ref a) | _ => none).getD .none) = _; rw [hm]; rfl
theorem Zfj (T0 : Top p loose mean mg mb h) (ho : Zfi p = true) {x : Str} {k : Nat} (hx : ownNames.lookup x = some k) : ∃ C, OwnClsQ x C [.type "ValueError", .type "Exception", .type "BaseException", .type "object"] "ValueError.__new__" mg h := by
 have:=List.all_eq_true.mp ho _ (mem_of_lookup hx)
 refine rEA (fun C O u2_=>?_) (T0.ownAt (beq_iff_eq.mp this))
 exact ⟨C,O⟩
theorem Zsu {bl:List (Str×Blt)}(hbl:∀x b,bl.lookup x=some b→bltNames.lookup x=some b)(T0:Top p loose mean mg mb h)(prog:Program)(w:World)(hf:Zfh p loose=true)(hg:(recsOf p).all Za3=true)(ho:Zfi p=true)(hC:mg Zjd=some (.ref C)) :
  GK ⟨prog,w,h,Xa mg,Jj mg mN,Qb C⟩ (Qa bl (recsOf p)):=by
 have gb:∀{x v},x∈tyNames.map (·.1)++bltNames.map (·.1)++[Wk]→bootBuiltins x=some v→GL ⟨prog,w,h,Xa mg,Jj mg mN,Qb C⟩ x v:=fun hx hv=>have q:=Zmj T0 hf hx;⟨mg,mb,T0.g,T0.b,.inr ⟨q.1,q.2.trans hv⟩⟩
 refine ⟨fun x t hx=>gb (List.mem_append_left _ (List.mem_append_left _ (Zc4 hx))) (Zpe hx),fun x n hx=>?_,fun x b hx=>gb (List.mem_append_left _ (List.mem_append_right _ (Zc4 (hbl x b hx)))) (Zmi (hbl x b hx)),gb (List.mem_append_right _ List.mem_cons_self) Zh7,fun x k hx=>?_,fun x k hx=>?_⟩
 ·have hm:=mem_of_lookup hx
  refine rEA (fun d hd e=>?_) (List.mem_filterMap.mp hm)
  refine Jx (e) fun n' hn e=>?_
  cases e
  have hgd:=List.all_eq_true.mp hg d hd
  simp only[Za3,hn,Bool.and_eq_true,beq_iff_eq,decide_eq_true_eq] at hgd
  refine Zd2 (fun a o pm code doc h1 h2 h3 h4=>?_) (T0.fn d hd)
  show GL _ _ (.ref (Jj mg mN n))∧∃o fd,h.get? (Jj mg mN n)=some o∧o.data=.func fd
  rw[Zh8 hgd.2.2 hgd.2.1 h1]
  exact ⟨⟨mg,mb,T0.g,T0.b,.inl h1⟩,o,_,h2,h3⟩
 ·have hm:=mem_of_lookup hx
  simp only[Qa,List.mem_cons,List.not_mem_nil,or_false,Prod.mk.injEq] at hm
  revert hm;refine rA fun hO0 hO1=>?_;refine eqS hO0 ?_;refine eqS hO1 ?_
  exact ⟨C,⟨mg,mb,T0.g,T0.b,.inl hC⟩,rfl⟩
 ·refine rE (fun D O=>?_) (Zfj T0 ho hx)
  exact ⟨mg,mb,T0.g,T0.b,.inl (O.bound.trans (congrArg some (Zc5 hx O.bound).symm))⟩
set_option tactic.hygienic true in
theorem Zsv {bl:List (Str×Blt)}(T0:Top p loose mean mg mb h)(prog:Program)(w:World)(hg:(recsOf p).all Za3=true){md:Nat→Mode}{n:Nat}{F:Fn}(hF:Zpb bl md (recsOf p) n=some F):Zss ⟨prog,w,h,Xa mg,Jj mg mN,Qb C⟩ (Qa bl (recsOf p)) n F:=by
 unfold Zpb at hF
 split at hF
 ·rename_i d hd
  have hmem:=List.mem_of_find?_eq_some hd
  have hnm:Zpa d.name=some n:=by have:=List.find?_some hd;simpa using this
  have hgd:=List.all_eq_true.mp hg d hmem
  simp only[Za3,hnm,Bool.and_eq_true,beq_iff_eq,Bool.not_eq_true',decide_eq_true_eq] at hgd
  revert hgd;refine rAA fun hO0 g6 g7=>?_;revert hO0;refine rA fun hO0 g5=>?_;obtain ⟨⟨⟨g1,g2⟩,g3⟩,g4⟩:=hO0
  refine Zd2 (fun a o pm code doc h1 h2 h3 h4=>?_) (T0.fn d hmem)
  refine rEA (fun cf u1_ hO=>?_) (Option.map_eq_some_iff.mp hF);refine eqE hO ?_
  have hat:FnAt ⟨prog,w,h,Xa mg,Jj mg mN,Qb C⟩ (Qa bl (recsOf p)) n cf.1 o (docDef d.name d.params d.body d.scope pm code doc) d.body (d.params.args.map (·.arg)):=⟨?_,h3,rfl,rfl,g2,g3,g4,g5,rfl,rfl,h4,fun vals hl=>Zh6 g1 vals hl,cf.2.1,cf.2.2.2 _,cf.2.2.1⟩
  ·exact ⟨o,_,_,_,hat⟩
  show h.get? (Jj mg mN n)=some o
  rw[Zh8 g7 g6 h1];exact h2
 ·exact nn hF
set_option tactic.hygienic true in
theorem Zsw {bl:List (Str×Blt)}(P:PlainAt h cr C N mN)(prog:Program)(w:World)(hg:cr.meths.all W9=true){ds:List DefRec}{md:Nat→Mode}{m:Nat}{F:Fn}(hF:Zpc bl md ds cr.meths m=some F):Zss ⟨prog,w,h,Xa mg,Jj mg mN,Qb C⟩ (Qa bl ds) (70+m) F:=by
 unfold Zpc at hF
 split at hF
 ·rename_i d hd
  have hmem:=List.mem_of_find?_eq_some hd
  have hnm:methNames.lookup d.name=some m:=by have:=List.find?_some hd;simpa using this
  have hgd:=List.all_eq_true.mp hg d hmem
  simp only[W9,hnm,Bool.and_eq_true,beq_iff_eq,Bool.not_eq_true',decide_eq_true_eq] at hgd
  revert hgd;refine rA fun hO0 g6=>?_;revert hO0;refine rA fun hO0 g5=>?_;obtain ⟨⟨⟨g1,g2⟩,g3⟩,g4⟩:=hO0
  refine Zck (fun a o pm code doc h1 h2 u7_ h3 h4=>?_) (P.meths d hmem)
  refine rEA (fun cf u1_ hO=>?_) (Option.map_eq_some_iff.mp hF);refine eqE hO ?_
  have hat : FnAt ⟨prog, w, h, Xa mg, Jj mg mN, Qb C⟩ (Qa bl ds) (70 + m) cf.1 o (methDef d.name (cr.name ++ "." ++ d.name) d.params d.body d.scope pm code doc) d.body (d.params.args.map (·.arg)) := ⟨?_, h3, rfl, rfl, g2, g3, g4, g5, rfl, rfl, h4, fun vals hl => Zkv g1 vals hl, cf.2.1, cf.2.2.2 _, cf.2.2.1⟩
  ·exact ⟨o,_,_,_,hat⟩
  show h.get? (Jj mg mN (70+m))=some o
  rw[Zqi g6 h1];exact h2
 ·exact nn hF
theorem Zmk (P : PlainAt h cr C N mN) (hg : cr.meths.all W9 = true) {m : Nat} (hm : Zg0 cr.meths m = true) : ∃ x a o fd, Zc3 m = some x ∧ mN x = some (.ref a) ∧ Jj mg mN (70 + m) = a ∧ h.get? a = some o ∧ o.cls = .type "function" ∧ o.data = .func fd := by
 refine rEA (fun d hmem hd=>?_) (List.any_eq_true.mp hm)
 have hnm:methNames.lookup d.name=some m:=by simpa using hd
 have hgd:=List.all_eq_true.mp hg d hmem
 simp only[W9,hnm,Bool.and_eq_true,beq_iff_eq] at hgd
 refine Zck (fun a o pm code doc h1 h2 h0 h3 h4=>?_) (P.meths d hmem)
 exact ⟨d.name,a,o,_,hgd.2,h1,Zqi hgd.2 h1,h2,h0,h3⟩
noncomputable def Zg1 (cr : ClsRec) : Bool := [Str.ofString "__getattribute__", Str.ofString "__getattr__", Str.ofString "__setattr__", Str.ofString "top", Str.ofString "many"].all fun x => cr.quiet.contains x
set_option tactic.hygienic true in
theorem Zsx {bl:List (Str×Blt)}(P:PlainAt h cr C N mN)(prog:Program)(w:World)(hg:cr.meths.all W9=true)(hq:Zg1 cr=true){md:Nat→Mode}{ds:List DefRec}:WK ⟨prog,w,h,Xa mg,Jj mg mN,Qb C⟩ (Qa bl ds) (Zpd bl md ds cr.meths):=by
 have qt : ∀ x ∈ [Str.ofString "__getattribute__", Str.ofString "__getattr__", Str.ofString "__setattr__", Str.ofString "top", Str.ofString "many"], mN x = none := fun x hx => P.quiet x (by have := List.all_eq_true.mp hq x hx; simpa using this)
 refine ⟨fun c C' hc=>?_,fun t i=>?_,fun x k hx=>?_⟩
 ·have hc0 : c = 0 ∧ C' = C := by
   have hc:Qb C c=.ref C':=hc
   unfold Qb at hc
   split at hc
   ·rename_i h0;cases hc;exact ⟨h0,rfl⟩
   ·cases hc
  revert hc0;refine rA fun hO0 hO1=>?_;refine eqS hO0 ?_;refine eqS hO1 ?_
  refine ⟨N,mN,P.cls,qt _ (.head _),qt _ (.tail _ (.head _)),qt _ (.tail _ (.tail _ (.head _))),fun k hk=>?_,fun x m f hx hf=>?_,fun f hf=>?_⟩
  ·have:k=0∨k=1:=by exact ln1 [(.lt .v0 (.k 2))] (.or (.eq .v0 .k0) (.eq .v0 .k1)) (.s (.s (.d 11) (.d 111)) (.s (.d 111) (.d 1011))) rfl hk
   rcases this with rfl | rfl
   ·exact qt _ (.tail _ (.tail _ (.tail _ (.head _))))
   ·exact qt _ (.tail _ (.tail _ (.tail _ (.tail _ (.head _)))))
  ·refine Ziy ((show (if (0 == 0&&Zg0 cr.meths m)=true then some (70+m) else none)=some f from hf)) fun h1 h2=>?_
   cases h2
   refine Zad (fun x' a o fd q1 q2 q3 q4 q5 q6=>?_) (Zmk (mg:=mg) P hg (by simpa using h1))
   have hxx:x=x'∧x ∉ [atn 0,atn 1]:=by
    exact (show ∀p,p∈methNames→∀x',Zc3 p.2=some x'→p.1=x'∧p.1 ∉ [atn 0,atn 1] from Un (fun u_ q=>⟨Option.some.inj q,by decide⟩) (Un (fun u_ q=>⟨Option.some.inj q,by decide⟩) (Un (fun u_ q=>⟨Option.some.inj q,by decide⟩) (Un (fun u_ q=>⟨Option.some.inj q,by decide⟩) (Un (fun u_ q=>⟨Option.some.inj q,by decide⟩) (Un (fun u_ q=>⟨Option.some.inj q,by decide⟩) (Un (fun u_ q=>⟨Option.some.inj q,by decide⟩) (Un (fun u_ q=>⟨Option.some.inj q,by decide⟩) (Un (fun u_ q=>⟨Option.some.inj q,by decide⟩) (Un (fun u_ q=>⟨Option.some.inj q,by decide⟩) (Un (fun u_ q=>⟨Option.some.inj q,by decide⟩) (Un (fun u_ q=>⟨Option.some.inj q,by decide⟩) (Un (fun u_ q=>⟨Option.some.inj q,by decide⟩) (Un (fun u_ q=>⟨Option.some.inj q,by decide⟩) (Un (fun u_ q=>⟨Option.some.inj q,by decide⟩) nofun))))))))))))))) _ (mem_of_lookup (show methNames.lookup x=some m from hx)) _ q1
   refine byC fun hX=>?_;revert hxx;refine rA fun hO0 hnx=>?_;obtain rfl:=hO0;refine hX ?_;clear hX
   show x ∉ _∧mN x=some (.ref (Jj mg mN (70+m)))∧(∃o fd,h.get? (Jj mg mN (70+m))=some o∧_)∧_
   rw[q3]
   exact ⟨hnx,q2,⟨o,fd,q4,q5,q6⟩,Zst x⟩
  ·refine Ziy ((show (if (0 == 0&&Zg0 cr.meths 0)=true then some 70 else none)=some f from hf)) fun h1 h2=>?_
   cases h2
   refine Zad (fun x' a o fd q1 q2 q3 q4 q5 q6=>?_) (Zmk (mg:=mg) P hg (by simpa using h1))
   cases q1
   show mN "__init__" = some (.ref (Jj mg mN (70 + 0))) ∧ ∃ o, h.get? (Jj mg mN (70 + 0)) = some o ∧ _
   rw[q3]
   exact ⟨q2,o,q4,q5⟩
 ·show Xa mg t≠.builtin i
  intro e
  unfold Xa at e
  split at e
  any_goals (cases e;done)
  cases hx:((Zje t).bind fun x=>(mg x).bind fun v=>match v with | .ref a=>some (Value.ref a) | _=>none) with
  | none=>rw[hx] at e;cases e
  | some v=>
   rw[hx] at e
   refine Zw (hx) fun x u1_ h2=>?_
   refine Zw (h2) fun v' u1_ h4=>?_
   have e:v=.builtin i:=e
   subst e
   cases v' <;> cases h4
 ·have hm:=mem_of_lookup hx
  simp only[Qa,List.mem_cons,List.not_mem_nil,or_false,Prod.mk.injEq] at hm
  rcases hm with ⟨rfl,rfl⟩ | ⟨rfl,rfl⟩
  ·exact ⟨by decide,rfl⟩
  ·exact ⟨by decide,rfl⟩
theorem Zsy {bl:List (Str×Blt)}(T0:Top p loose mean mg mb h)(prog:Program)(w:World)(ho:Zfi p=true)(hs:Sub mg h){ds:List DefRec}:EK ⟨prog,w,h,Xa mg,Jj mg mN,Qb C⟩ (Qa bl ds):=by
 refine ⟨fun x k hx=>?_,fun x t k hx hk=>?_⟩
 ·refine rE (fun D O=>?_) (Zfj T0 ho hx)
  exact ⟨D,_,_,_,_,mg,Zc5 hx O.bound,PySem.F.excBase_ValueError,by decide,O⟩
 ·have own : ∀ x k, ownNames.lookup x = some k → ∀ C D, Xa mg k = .ref C → Xa mg k = .ref D → ∃ o cd, h.get? C = some o ∧ o.data = .cls cd ∧ cd.mro.contains (.ref D) = true := fun x k hx C D h1 h2 => by
   rw[h1] at h2;cases h2
   refine rE (fun E O=>?_) (Zfj T0 ho hx)
   have:=Zc5 hx O.bound
   rw[this] at h1;cases h1
   refine U5 (fun bm N nm q bs hdct sn sub ab col dd k0 k1 k2 k3 k5 mN hC u18_=>?_) O.obj
   exact ⟨_,_,hC,rfl,by simp⟩
  have down:∀x k,ownNames.lookup x=some k→x∈subs→∀C D,Xa mg k=.ref C→Xa mg 10=.ref D→∃o cd,h.get? C=some o∧o.data=.cls cd∧cd.mro.contains (.ref D)=true:=fun x k hx hm C D h1 h2=>by
   refine Jw (fun C' D' cd dd S=>?_) (hs x hm)
   rw[Zc5 hx S.c1] at h1;cases h1
   rw[Zc5 (x:=Zld) (k:=10) rfl S.d1] at h2;cases h2
   refine rEA (fun o q3 q4=>?_) S.c2
   exact ⟨o,cd,q3,q4,by rw[S.mro];simp⟩
  have four:∀t,Xp k t=true→k=t∨(t=10∧(k=11∨k=12∨k=13)):=fun t hk=>by
   simp only[Xp,Bool.or_eq_true,Bool.and_eq_true,beq_iff_eq] at hk
   rcases hk with h | ⟨h,(h' | h') | h'⟩
   ·exact .inl h
   ·exact .inr ⟨h,.inl h'⟩
   ·exact .inr ⟨h,.inr (.inl h')⟩
   ·exact .inr ⟨h,.inr (.inr h')⟩
  rcases four t hk with rfl | ⟨rfl,rfl | rfl | rfl⟩
  ·exact ⟨⟨x,hx⟩,own x k hx⟩
  ·exact ⟨⟨Str.ofString "BadStretch", rfl⟩, down _ 11 rfl (.head _)⟩
  ·exact ⟨⟨Str.ofString "Twice", rfl⟩, down _ 12 rfl (.tail _ (.head _))⟩
  ·exact ⟨⟨Str.ofString "Missing", rfl⟩, down _ 13 rfl (.tail _ (.tail _ (.head _)))⟩
theorem Zsz (prog:Program)(w:World)(f:Nat→Addr)(g:Nat→Value):TyOK ⟨prog,w,h,Xa mg,f,g⟩:=⟨rfl,rfl,rfl,rfl⟩
set_option tactic.hygienic true in
theorem law_end {bl:List (Str×Blt)}(hbl:∀x b,bl.lookup x=some b→bltNames.lookup x=some b)(T0:Top p loose mean mg mb h)(P:PlainAt h cr C N mN)(hC:mg Zjd=some (.ref C))(hs':Sub mg h)(prog:Program)(w:World)(hf:Zfh p loose=true)(hg:(recsOf p).all Za3=true)(ho:Zfi p=true)
  (hg':cr.meths.all W9=true) (hq':Zg1 cr=true) {md:Nat→Mode}{d n:Nat}{A:Around} (rm:Rm d A) (hA:A.frames=some []) (hs:∀K A,Rm 0 A→Zfc K A)
  {s:Shared} (es:s.heap=h) {l:List Int}{vs:List Value}{ax:Addr} (hx:h.get? ax=some (Yd vs 0)) (hv:∀K,RVs K [] h (l.map V.int) vs) (hl:l.length≤Zl) {σ':H}{x:Str}{fa:Addr} (hn7:n<70) (hn:Zfg n=some x) (hm:mg x=some (.ref fa))
  (hc:Zh (Zpd bl md (recsOf p) cr.meths) d n [.frz l] []=some (.ok (.bool true),σ')) {Q:Value→Shared→Prop}{E:Value→Shared→Prop}
  (hq:∀s':Shared,(∀b o,s.heap.get? b=some o→s'.heap.get? b=some o)→s'.os=s.os→s'.gens=s.gens→Q (.bool true) s'):wpAny (model prog w) A (call (.ref fa) [.ref ax]) Q E s:=by
 subst es
 have pk:PK ⟨prog,w,s.heap,Xa mg,Jj mg mN,Qb C⟩ (Qa bl (recsOf p)) (Zpd bl md (recsOf p) cr.meths):=by
  refine ⟨Zsu hbl T0 prog w hf hg ho hC,Zsz prog w _ _,Zsx P prog w hg' hq',Zsy T0 prog w ho hs',fun f F hF=>?_,T0.nolimit,fun u_ v_ A rm=>hs _ A rm,rfl⟩
  have hF:(if f<70 then Zpb bl md (recsOf p) f else Zpc bl md (recsOf p) cr.meths (f-70))=some F:=hF
  split at hF
  ·exact Zsv T0 prog w hg hF
  ·have:=Zsw (mg:=mg) P prog w hg' hF
   rwa [show 70+(f-70)=f by exact ln2 [(.sb .v0 .v1 (.k 70)),(.no (.lt .v1 (.k 70)))] (.eq (.a (.k 70) .v0) .v1) (.s (.s (.d 11001) (.d 11101)) (.s (.d 1101) (.d 110101))) rfl (Zd _ _) ‹_›] at this
 have hr:HR ⟨prog,w,s.heap,Xa mg,Jj mg mN,Qb C⟩ [] [] s.heap:=⟨fun u_ v_ e=>e,rfl,List.nodup_nil,(fun a h=>nomatch h),fun n o a h1 u_=>by simp at h1⟩
 have:=Zh5 pk d A rm n [.frz l] [] (.bool true) σ' hc [] s [.ref ax] hr (.cons (.frz hx (hv _) hl) .nil) (fun fs hfs env he=>by rw[hA] at hfs;obtain rfl:=Option.some.inj hfs;cases he)
 have e:Jj mg mN n=fa:=Zh8 hn7 hn hm
 unfold TR at this
 simp only[e] at this
 refine wpAny_mono this (fun v s' hq'=>?_) fun u_ v_ f=>f.elim
 revert hq';refine rEA fun ρ' g rv=>?_
 obtain rfl:=rv.boolI rfl
 exact hq s' g.hr.keep g.st.os g.st.gens
end
end
end Mini.Internal
namespace Mini.Internal
open PySem PySem.W PyProof.Rows
variable {ρ ρ' ρ1:List Addr}{σ σ' σ1:H}{s s' s1:Shared}{h h':Heap}{ℓ ℓ':L}
theorem Zfk {P:Params}{d:WData}{ds:List WData}{vs:List Value}(r:WellAll P h vs (d::ds)):∃w wr,vs=w::wr∧Well P h w d∧WellAll P h wr ds:=by
 cases r with
 | cons a b=>exact ⟨_,_,rfl,a,b⟩
theorem Zg2 {P:Params}{vs:List Value}(r:WellAll P h vs []):vs=[]:=by
 cases r with
 | nil=>rfl
theorem Zml {P:Params}{i:Int}{w:Value}(r:Well P h w (.int i)):∃t,w=.int i t:=by
 cases r with
 | int _ t=>exact ⟨t,rfl⟩
theorem Za4 {K:Kx}{P:Params}:∀{l:List Int}{vs:List Value},WellAll P h vs (ofPys (l.map .int))→RVs K [] h' (l.map V.int) vs
 | [],vs,r=>by rw[Zg2 r];exact .nil
 | i::l,vs,r=>by
  refine byC fun hX=>?_;refine Ym (fun w wr hO2 r0 rs=>?_) (Zfk r);obtain rfl:=hO2;refine hX ?_;clear hX
  refine byC fun hX=>?_;refine rE (fun t hO1=>?_) (Zml r0);obtain rfl:=hO1;refine hX ?_;clear hX
  exact .cons (.int i t) (Za4 (l:=l) rs)
theorem well_ints {P:Params}{l:List Int}{ax:Addr}(w:Well P h (.ref ax) (ofPy (.list (l.map .int)))):∃vs,h.get? ax=some (Yd vs 0)∧∀K,RVs K [] h' (l.map V.int) vs:=by
 have e:ofPy (.list (l.map .int))=.list (ofPys (l.map .int)):=rfl
 rw[e] at w
 cases w with
 | list h1 h2=>exact ⟨_,h1,fun K=>Za4 h2⟩
theorem script_small {l:List Int}(h:PyData.layable0 (.list (l.map .int))=true):∀x∈l,x.natAbs<2^(2^20):=fun x hx=>by
 have:=PyData.bits_item_of_ints h hx
 exact intBits_le_iff.mp this
theorem rm_caller:Rm 340 callerA:=⟨rfl,by decide,by decide,⟨[],rfl⟩⟩
end Mini.Internal
namespace Mini.Internal
open PySem PyProof.Rows
variable {ρ ρ' ρ1:List Addr}{σ σ' σ1:H}{s s' s1:Shared}{h h':Heap}{ℓ ℓ':L}
theorem X0 (x y:T3):T3.le x y=true↔(x.a<y.a∨(x.a=y.a∧(x.b<y.b∨(x.b=y.b∧x.c≤y.c)))):=by
 simp[T3.le]
theorem Ui (x:T3):T3.le x x=true:=by rw[X0];exact lz3 [] (.or (.zlt .v0 .v0) (.an (.zeq .v0 .v0) (.or (.zlt .v1 .v1) (.an (.zeq .v1 .v1) (.zle .v2 .v2))))) (.s (.s (.d 101) (.d 101)) (.s (.s (.d 1001) (.d 1001)) (.d 1001))) rfl
theorem Z4 {x y z:T3}(h:T3.le x y=true)(h':T3.le y z=true):T3.le x z=true:=by rw[X0] at *;exact lin [(.or (.zlt .v0 .v6) (.an (.zeq .v0 .v6) (.or (.zlt .v2 .v7) (.an (.zeq .v2 .v7) (.zle .v4 .v8))))),(.or (.zlt .v6 .v1) (.an (.zeq .v6 .v1) (.or (.zlt .v7 .v3) (.an (.zeq .v7 .v3) (.zle .v8 .v5)))))] (.or (.zlt .v0 .v1) (.an (.zeq .v0 .v1) (.or (.zlt .v2 .v3) (.an (.zeq .v2 .v3) (.zle .v4 .v5))))) (.s (.s (.s (.s (.d 111) (.s (.d 111) (.d 111))) (.s (.s (.d 111) (.s (.d 111) (.d 111))) (.s (.d 111) (.s (.d 111) (.d 111))))) (.s (.s (.d 10111) (.s (.d 10111) (.d 10111))) (.s (.s (.d 1011001) (.s (.d 1011001) (.d 1011001))) (.s (.d 101100001) (.s (.d 101100001) (.d 101100001)))))) (.s (.s (.s (.s (.d 1011) (.s (.d 1011) (.d 1011))) (.s (.s (.d 1011) (.s (.d 1011) (.d 1011))) (.s (.d 1011) (.s (.d 1011) (.d 1011))))) (.s (.s (.d 110011) (.s (.d 110011) (.d 110011))) (.s (.s (.d 11001001) (.s (.d 1001001001) (.d 1001001001))) (.s (.d 1100100001) (.s (.d 100100100001) (.d 100100100001)))))) (.s (.s (.d 110011) (.s (.d 110011) (.d 110011))) (.s (.s (.d 11001001) (.s (.d 1010001001) (.d 1010001001))) (.s (.d 1100100001) (.s (.d 101000100001) (.d 10010000100001))))))) rfl [] [_,_,_,_,_,_,_,_,_] h h'
theorem Yv {x y:T3}(h:T3.le x y=false):T3.le y x=true:=by
 rw[← Bool.not_eq_true,X0] at h;rw[X0];exact lz6 [(.no (.or (.zlt .v1 .v0) (.an (.zeq .v1 .v0) (.or (.zlt .v3 .v2) (.an (.zeq .v3 .v2) (.zle .v5 .v4))))))] (.or (.zlt .v0 .v1) (.an (.zeq .v0 .v1) (.or (.zlt .v2 .v3) (.an (.zeq .v2 .v3) (.zle .v4 .v5))))) (.s (.s (.s (.s (.d 111) (.d 111)) (.s (.s (.d 111) (.d 111)) (.d 111))) (.s (.s (.d 1011) (.d 1011)) (.s (.s (.d 1011) (.d 1011)) (.d 1011)))) (.s (.s (.s (.s (.d 1011) (.d 1011)) (.s (.s (.d 1011) (.d 1011)) (.d 1011))) (.s (.s (.d 100011) (.d 110001)) (.s (.s (.d 100101) (.d 100101)) (.d 100101)))) (.s (.s (.d 100011) (.d 110001)) (.s (.s (.d 1000011) (.d 1010001)) (.d 1001001))))) rfl h
theorem X1 {x y:T3}(h:T3.le x y=true)(h':T3.le y x=true):x=y:=by
 rw[X0] at h h'
 have:x.a=y.a∧x.b=y.b∧x.c=y.c:=by exact lz6 [(.or (.zlt .v0 .v1) (.an (.zeq .v0 .v1) (.or (.zlt .v2 .v3) (.an (.zeq .v2 .v3) (.zle .v4 .v5))))),(.or (.zlt .v1 .v0) (.an (.zeq .v1 .v0) (.or (.zlt .v3 .v2) (.an (.zeq .v3 .v2) (.zle .v5 .v4)))))] (.an (.zeq .v0 .v1) (.an (.zeq .v2 .v3) (.zeq .v4 .v5))) (.s (.s (.s (.s (.d 1101) (.s (.d 1101) (.d 1101))) (.s (.s (.d 1101) (.s (.d 1101) (.d 1101))) (.s (.d 1101) (.s (.d 1101) (.d 1101))))) (.s (.s (.d 111) (.s (.d 111) (.d 111))) (.s (.s (.d 111) (.s (.d 111) (.d 111))) (.s (.d 111) (.s (.d 111) (.d 111)))))) (.s (.s (.s (.s (.d 1011) (.s (.d 1011) (.d 1011))) (.s (.s (.d 101001) (.s (.d 11000001) (.d 11000001))) (.s (.d 110001) (.s (.d 110001) (.d 110001))))) (.s (.s (.d 1011) (.s (.d 1011) (.d 1011))) (.s (.s (.d 11001) (.s (.d 11001) (.d 11001))) (.s (.d 11001) (.s (.d 11001) (.d 11001)))))) (.s (.s (.s (.d 1011) (.s (.d 1011) (.d 1011))) (.s (.s (.d 101001) (.s (.d 10001001) (.d 10001001))) (.s (.d 10100001) (.s (.d 1000100001) (.d 110000000001))))) (.s (.s (.d 1011) (.s (.d 1011) (.d 1011))) (.s (.s (.d 101001) (.s (.d 10001001) (.d 10001001))) (.s (.d 1100001) (.s (.d 1100001) (.d 1100001)))))))) rfl h h'
 cases x;cases y;simp_all
noncomputable def KS (key:Keyed→T3)(xs:Array Keyed)(i:Nat):T3:=key (xs[i]?.getD default)
theorem U0 {key:Keyed→T3}{xs ys:Array Keyed}{i j:Nat}(h:xs[i]?=ys[j]?):KS key xs i=KS key ys j:=by unfold KS;rw[h]
noncomputable def SegS (key:Keyed→T3)(xs:Array Keyed)(i j:Nat):Prop:=∀p q,i≤p→p≤q→q<j→T3.le (KS key xs p) (KS key xs q)=true
noncomputable def SegD (key:Keyed→T3)(xs:Array Keyed)(i j:Nat):Prop:=∀p q,i≤p→p≤q→q<j→T3.le (KS key xs q) (KS key xs p)=true
theorem Zbn {key:Keyed→T3}{xs:Array Keyed}{i j:Nat}(hj:j≤xs.size)(k:Nat) :
  KS key (mirror xs i j ((j-i) / 2)) k=if i≤k∧k<j then KS key xs (i+j-1-k) else KS key xs k:=by
 have e:=getElem?_mirror_all (i:=i) hj k
 by_cases h1:i≤k∧k<j
 ·rw[if_pos h1] at e ⊢;exact U0 e
 ·rw[if_neg h1] at e ⊢;exact U0 e
set_option tactic.hygienic true in
theorem Y1 {key:Keyed→T3}{xs:Array Keyed}{i j:Nat}(hj:j≤xs.size)(heq:∀k,i≤k→k<j→KS key xs k=KS key xs (j-1))(k:Nat):KS key (mirror xs i j ((j-i) / 2)) k=KS key xs k:=by
 rw[Zbn hj]
 split
 ·rw[heq _ (by exact ln5 [(.sb .v1 .v3 .v2),(.sb .v3 (.a .v0 .v4) .k1),(.an (.le .v0 .v2) (.lt .v2 .v4))] (.le .v0 .v1) (.s (.s (.d 1100100101) (.d 112010101)) (.s (.d 1110100101) (.d 1110110101))) rfl (Zd _ _) (Zd _ _) ‹_›) (by exact ln5 [(.sb .v0 .v3 .v2),(.sb .v3 (.a .v4 .v1) .k1),(.an (.le .v4 .v2) (.lt .v2 .v1))] (.lt .v0 .v1) (.s (.s (.d 110100101) (.d 1101001021)) (.s (.d 1111010101) (.d 1111000101))) rfl (Zd _ _) (Zd _ _) ‹_›),heq k (by exact ln3 [(.an (.le .v0 .v1) (.lt .v1 .v2))] (.le .v0 .v1) (.d 111) rfl ‹_›) (by exact ln3 [(.an (.le .v2 .v0) (.lt .v0 .v1))] (.lt .v0 .v1) (.d 1101) rfl ‹_›)]
 ·rfl
theorem Zkw {key:Keyed→T3}{xs:Array Keyed}{src d:Nat}(hs:src<xs.size)(hd:d≤src)(k:Nat) :
  KS key (bubble xs src d) k=if k=src-d then KS key xs src else if src-d<k∧k≤src then KS key xs (k-1) else KS key xs k:=by
 have e:=getElem?_bubble hs d hd k
 by_cases h1:k=src-d
 ·rw[if_pos h1] at e ⊢;exact U0 e
 ·rw[if_neg h1] at e ⊢
  by_cases h2:src-d<k∧k≤src
  ·rw[if_pos h2] at e ⊢;exact U0 e
  ·rw[if_neg h2] at e ⊢;exact U0 e
structure SB (a₀:Array Keyed)(κ:SortKind)(lo hi:Nat)(st0 st:SortSt):Prop where
 perm:(arrOf st).Perm a₀
 kind:kindOf st=κ
 ok:failedOf st=none
 pend:pendingOf st=pendingOf st0
 out:∀k:Nat,k<lo∨hi≤k→(arrOf st)[k]?=(arrOf st0)[k]?
theorem SB.size {a₀:Array Keyed}{κ:SortKind}{lo hi:Nat}{st0 st:SortSt}(h:SB a₀ κ lo hi st0 st):(arrOf st).size=a₀.size:=h.perm.size_eq
theorem SB.mirror {a₀:Array Keyed}{κ:SortKind}{lo hi i j:Nat}{st0 st:SortSt}(h:SB a₀ κ lo hi st0 st)(h1:lo≤i)(h2:j≤hi)(h3:hi≤a₀.size):SB a₀ κ lo hi st0 (setArr st (mirror (arrOf st) i j ((j-i) / 2))) :=
 ⟨(mirror_perm _ _ _ _).trans h.perm,h.kind,h.ok,h.pend,fun k hk=>by
  show (PyProof.Rows.mirror (arrOf st) i j ((j-i) / 2))[k]?=_
  rw[getElem?_mirror_all (by rw[h.size];exact ln3 [(.le .v0 .v2),(.le .v2 .v1)] (.le .v0 .v1) (.d 1111) rfl h2 h3),if_neg (by exact ln5 [(.le .v3 .v0),(.le .v2 .v4),(.or (.lt .v1 .v3) (.le .v4 .v1))] (.no (.an (.le .v0 .v1) (.lt .v1 .v2))) (.s (.d 110101) (.d 101011)) rfl h1 h2 hk)];exact h.out k hk⟩
theorem SB.bubble {a₀:Array Keyed}{κ:SortKind}{lo hi src d:Nat}{st0 st:SortSt}(h:SB a₀ κ lo hi st0 st)(h1:lo≤src-d)(h0:d≤src)(h2:src<hi)(h3:hi≤a₀.size):SB a₀ κ lo hi st0 (setArr st (bubble (arrOf st) src d)) :=
 ⟨(bubble_perm _ _ _).trans h.perm,h.kind,h.ok,h.pend,fun k hk=>by
  show (PyProof.Rows.bubble (arrOf st) src d)[k]?=_
  rw[getElem?_bubble (by rw[h.size];exact ln3 [(.lt .v0 .v2),(.le .v2 .v1)] (.lt .v0 .v1) (.d 1111) rfl h2 h3) d h0,if_neg (by exact ln6 [(.le .v2 .v1),(.lt .v3 .v4),(.or (.lt .v0 .v2) (.le .v4 .v0)),(.sb .v1 .v3 .v5)] (.no (.eq .v0 .v1)) (.s (.s (.d 101101) (.d 101101)) (.s (.d 11001101) (.d 11001101))) rfl h1 h2 hk (Zd _ _)),if_neg (by exact ln5 [(.le .v3 .v0),(.lt .v2 .v4),(.or (.lt .v1 .v3) (.le .v4 .v1))] (.no (.an (.lt .v0 .v1) (.le .v1 .v2))) (.s (.d 110101) (.d 101011)) rfl h1 h2 hk)];exact h.out k hk⟩
noncomputable def Wl (prog:Program)(w:World)(A:Around)(E:Value→Shared→Prop)(s:Shared)(κ:SortKind)(a₀:Array Keyed)(key:Keyed→T3):Prop :=
 ∀x y,x∈a₀.toList→y∈a₀.toList→∀(st:SortSt) (Q:Option Bool→SortSt→Prop),kindOf st=κ→Q (some (!T3.le (key y) (key x))) st→wpS (model prog w) A E s (lt' x y) Q st
theorem Zs0 {p q x:Nat}(h:p≤q)(a b c:T3):(if x=q-(q-p) then a else if q-(q-p)<x∧x≤q then b else c)=if x=p then a else if p<x∧x≤q then b else c:=by rw[Nat.sub_sub_self h]
set_option tactic.hygienic true in
theorem Zpf {f:Nat→T3}{lo p q i j:Nat}(hl:lo≤p)(_:p≤q)(hs:∀i j,lo≤i→i≤j→j<q→T3.le (f i) (f j)=true)(hlo:∀i,lo≤i→i<p→T3.le (f i) (f q)=true)(hhi:∀i,p≤i→i<q→T3.le (f q) (f i)=true)
  (hi:lo≤i) (hij:i≤j) (hj:j≤q):T3.le (if i=p then f q else if p<i∧i≤q then f (i-1) else f i) (if j=p then f q else if p<j∧j≤q then f (j-1) else f j)=true:=by
 have one:∀{x:Nat},p<x→x≤q→x-1<q:=fun h h'=>Nat.lt_of_lt_of_le (Nat.sub_lt (Nat.lt_of_le_of_lt (Nat.zero_le _) h) Nat.zero_lt_one) h'
 by_cases c1:i=p
 ·rw[if_pos c1]
  by_cases c2:j=p
  ·rw[if_pos c2];exact Ui _
  ·have h2:p<j:=Nat.lt_of_le_of_ne (c1▸hij) fun e=>c2 e.symm
   rw[if_neg c2,if_pos ⟨h2,hj⟩];exact hhi _ (Nat.le_sub_one_of_lt h2) (one h2 hj)
 ·rw[if_neg c1]
  by_cases c3:p<i
  ·have h2:p<j:=Nat.lt_of_lt_of_le c3 hij
   rw[if_pos ⟨c3,Nat.le_trans hij hj⟩,if_neg (Nat.ne_of_gt h2),if_pos ⟨h2,hj⟩]
   exact hs _ _ (Nat.le_sub_one_of_lt (Nat.lt_of_le_of_lt hl c3)) (Nat.sub_le_sub_right hij 1) (one h2 hj)
  ·have h1:i<p:=Nat.lt_of_le_of_ne (Nat.le_of_not_lt c3) c1
   rw[if_neg fun h=>c3 h.1]
   by_cases c2:j=p
   ·rw[if_pos c2];exact hlo _ hi h1
   ·rw[if_neg c2]
    by_cases c4:p<j
    ·rw[if_pos ⟨c4,hj⟩];exact hs _ _ hi (Nat.le_sub_one_of_lt (Nat.lt_trans h1 c4)) (one c4 hj)
    ·rw[if_neg fun h=>c4 h.1];exact hs _ _ hi hij (Nat.lt_of_lt_of_le (Nat.lt_of_le_of_ne (Nat.le_of_not_lt c4) c2) ‹p≤q›)
section
variable {prog:Program}{w:World}{A:Around}{E:Value→Shared→Prop}{s:Shared}{a₀:Array Keyed}{κ:SortKind}{key:Keyed→T3}
theorem Qn {xs:Array Keyed}(h:xs.Perm a₀){i:Nat}(hi:i<xs.size):xs[i]∈a₀.toList:=(Array.perm_iff_toList_perm.mp h).mem_iff.mp (by simp)
theorem Yq {xs:Array Keyed}{i:Nat}(hi:i<xs.size):KS key xs i=key xs[i]:=by unfold KS;rw[getElem?_pos xs i hi];rfl
theorem Yj {α:Type}{c:Prop}[Decidable c]{x y:StateT SortSt Sem α}{Q:α→SortSt→Prop}{st:SortSt}(h:c)(k:wpS (model prog w) A E s x Q st):wpS (model prog w) A E s (if c then x else y) Q st:=by rw[if_pos h];exact k
theorem Yk {α:Type}{c:Prop}[Decidable c]{x y:StateT SortSt Sem α}{Q:α→SortSt→Prop}{st:SortSt}(h:¬ c)(k:wpS (model prog w) A E s y Q st):wpS (model prog w) A E s (if c then x else y) Q st:=by rw[if_neg h];exact k
theorem Qy {α:Type}{c:Prop}[Decidable c]{x y:StateT SortSt Sem α}{Q:α→SortSt→Prop}{st:SortSt}(h:c→wpS (model prog w) A E s x Q st)(k:¬ c→wpS (model prog w) A E s y Q st):wpS (model prog w) A E s (if c then x else y) Q st:=by
 by_cases hc:c
 ·exact Yj hc (h hc)
 ·exact Yk hc (k hc)
theorem Yh {xs:Array Keyed}{i:Nat}{Q:Keyed→SortSt→Prop}{st:SortSt}(hi:i<xs.size)(h:Q xs[i] st):wpS (model prog w) A E s (elem' xs i) Q st:=by
 rw[elem'_eq,getElem?_pos xs i hi];exact wpS_pure h
theorem Zc6 {lo hi:Nat}{st0 st:SortSt}{i j:Nat}{Q:Option Bool→SortSt→Prop}(H:Wl prog w A E s κ a₀ key)(hB:SB a₀ κ lo hi st0 st)(hi':i<a₀.size)(hj:j<a₀.size)
  (h:Q (some (!T3.le (KS key (arrOf st) j) (KS key (arrOf st) i))) st):wpS (model prog w) A E s (ltAt' i j) Q st:=by
 have h1:i<(arrOf st).size:=by rw[hB.size];exact hi'
 have h2:j<(arrOf st).size:=by rw[hB.size];exact hj
 rw[ltAt'_eq]
 refine wpS_bind (wpS_get ?_)
 show wpS _ _ _ _ (do let x ← elem' (arrOf st) i;let y ← elem' (arrOf st) j;lt' x y) Q st
 refine wpS_bind (Yh h1 (wpS_bind (Yh h2 ?_)))
 rw[Yq h1,Yq h2] at h
 exact H _ _ (Qn hB.perm h1) (Qn hB.perm h2) st Q hB.kind h
theorem Zh9 {lo n ok:Nat}{st0 st:SortSt}{Q:Bool→SortSt→Prop}(H:Wl prog w A E s κ a₀ key)(hn:lo+n≤a₀.size)(hok:ok≤n)(hB:SB a₀ κ lo (lo+n) st0 st)(hs:SegS key (arrOf st) lo (lo+ok))
  (h:∀st',SB a₀ κ lo (lo+n) st0 st'→SegS key (arrOf st') lo (lo+n)→gallopOf st'=gallopOf st→Q true st'):wpS (model prog w) A E s (binarySort' lo n ok) Q st:=by
 rw[binarySort'_eq]
 refine wpS_bind (wpS_mono (wpS_forRange (I:=fun k c st'=>c=(none,())∧SB a₀ κ lo (lo+n) st0 st'∧gallopOf st'=gallopOf st∧SegS key (arrOf st') lo (lo+min k n))
  (Q:=fun c st'=>c=(none,())∧SB a₀ κ lo (lo+n) st0 st'∧gallopOf st'=gallopOf st∧SegS key (arrOf st') lo (lo+n)) ?step ?fin ?init) ?post)
 case post=>
  intro c st' hR2
  refine byC fun hX=>?_;revert hR2;refine Zb8 fun hO0 hB' hg hs'=>?_;obtain rfl:=hO0;refine hX ?_;clear hX
  exact wpS_pure (h st' hB' hs' hg)
 case init=>
  refine ⟨rfl,hB,rfl,fun i j hi hij hj=>?_⟩
  by_cases h1:ok=0
  ·have:i=j:=by exact ln7 [(.le .v2 .v0),(.le .v0 .v1),(.lt .v1 (.a .v2 .v3)),(.eq .v4 .k0),(.mi .v3 .v5 .v6),(.mx .v5 .v4 .k1)] (.eq .v0 .v1) (.s (.s (.s (.d 111010001001) (.d 10000100001)) (.s (.d 111010011001) (.d 10000100001))) (.s (.s (.d 1101) (.d 1101)) (.s (.d 1101) (.d 1101)))) rfl hi hij hj h1 (Yc _ _) (Qg _ _)
   subst this;exact Ui _
  ·exact hs i j hi hij (by exact ln6 [(.lt .v0 (.a .v1 .v3)),(.no (.eq .v2 .k0)),(.mi .v3 .v4 .v5),(.mx .v4 .v2 .k1)] (.lt .v0 (.a .v1 .v2)) (.s (.s (.s (.d 1001) (.d 10010001)) (.s (.d 1001) (.d 10010001))) (.s (.s (.d 111101001) (.d 111001001)) (.s (.d 111111001) (.d 111011001)))) rfl hj h1 (Yc _ _) (Qg _ _))
 case fin=>
  intro c st' hR2
  revert hR2;refine Zb8 fun hc hB' hg hs'=>?_
  refine ⟨hc,hB',hg,?_⟩
  rwa [show min (max (max ok 1) n) n=n by exact ln4 [(.mi .v0 .v2 .v1),(.mx .v2 .v3 .v1)] (.eq .v0 .v1) (.s (.s (.s (.d 11001001) (.d 11001101)) (.s (.d 11001) (.d 11001))) (.s (.s (.d 1111) (.d 1111)) (.s (.d 1101) (.d 1101)))) rfl (Yc _ _) (Qg _ _)] at hs'
 case step=>
  intro k c st' hak hkn hR5
  refine byC fun hX=>?_;revert hR5;refine Zb8 fun hO0 hB' hg hs'=>?_;obtain rfl:=hO0;refine hX ?_;clear hX
  rw[show min k n=k by exact ln3 [(.lt .v1 .v2),(.mi .v0 .v1 .v2)] (.eq .v0 .v1) (.s (.s (.d 110001) (.d 1011)) (.s (.d 11001) (.d 1011))) rfl hkn (Yc _ _)] at hs'
  have hk:lo+k<a₀.size:=by exact ln4 [(.le (.a .v0 .v3) .v2),(.lt .v1 .v3)] (.lt (.a .v0 .v1) .v2) (.d 1111) rfl hn hkn
  refine wpS_bind (wpS_mono (wpS_forRange (I := fun x c st'' => st'' = st' ∧ ∃ l r, c = (none, l, r) ∧ l ≤ r ∧ r ≤ k ∧ r - l ≤ k - x ∧
    (∀i,i<l→T3.le (KS key (arrOf st') (lo+i)) (KS key (arrOf st') (lo+k))=true)∧(∀i,r≤i→i<k→T3.le (KS key (arrOf st') (lo+k)) (KS key (arrOf st') (lo+i))=true))
   (Q:=fun c st''=>st''=st'∧∃l r,c=(none,l,r)∧l≤k∧
    (∀i,i<l→T3.le (KS key (arrOf st') (lo+i)) (KS key (arrOf st') (lo+k))=true)∧(∀i,l≤i→i<k→T3.le (KS key (arrOf st') (lo+k)) (KS key (arrOf st') (lo+i))=true)) ?istep ?ifin ?iinit) ?ipost)
  case iinit=>exact ⟨rfl,0,k,rfl,by exact ln1 [] (.le .k0 .v0) (.d 11) rfl,by exact ln1 [] (.le .v0 .v0) (.d 11) rfl,by exact ln1 [] (.le .v0 .v0) (.d 11) rfl,fun i hi=>by lia,fun i h1 h2=>by lia⟩
  case ifin=>
   intro c st'' hR2
   refine byC fun hX=>?_;revert hR2;refine Zd0 fun hO0 l r hO3 hlr hrk hm hlo hhi=>?_;obtain rfl:=hO0;obtain rfl:=hO3;refine hX ?_;clear hX
   have:l=r:=by exact ln5 [(.le .v0 .v1),(.le .v2 .v3),(.sb .v3 .v4 .v4),(.sb .v2 .v1 .v0)] (.eq .v0 .v1) (.s (.s (.s (.d 1101010001) (.d 11000001)) (.s (.d 1101010001) (.d 11000001))) (.s (.s (.d 111) (.d 111)) (.s (.d 111) (.d 111)))) rfl hlr hm (Zd _ _) (Zd _ _)
   subst this
   exact ⟨rfl,l,l,rfl,hrk,hlo,hhi⟩
  case istep=>
   intro x c st'' _ hxk hR5
   refine byC fun hX=>?_;revert hR5;refine Zd0 fun hO0 l r hO3 hlr hrk hm hlo hhi=>?_;obtain rfl:=hO0;obtain rfl:=hO3;refine hX ?_;clear hX
   dsimp only
   by_cases hge:l ≥ r
   ·rw[if_pos hge]
    have:l=r:=by exact ln2 [(.le .v0 .v1),(.le .v1 .v0)] (.eq .v0 .v1) (.s (.d 1101) (.d 111)) rfl hlr hge
    subst this
    exact wpS_pure ⟨rfl,l,l,rfl,hrk,hlo,hhi⟩
   ·rw[if_neg hge]
    refine wpS_bind (Zc6 H hB' hk (by exact ln7 [(.le (.a .v0 .v3) .v2),(.lt .v4 .v3),(.le .v5 .v4),(.no (.le .v5 .v6)),(.an (.le (.m 2 .v1) (.a .v6 .v5)) (.lt (.a .v6 .v5) (.a (.m 2 .v1) (.k 2))))] (.lt (.a .v0 .v1) .v2) (.d 1222211) rfl hn hkn hrk hge (J6 _ 2 (by decide))) ?_)
    cases hless:T3.le (KS key (arrOf st'') (lo+(l+r) / 2)) (KS key (arrOf st'') (lo+k))
    case false=>
     simp only[Bool.not_false,if_true]
     refine wpS_pure ⟨rfl,l,(l+r) / 2,rfl,by exact ln3 [(.no (.le .v2 .v0)),(.an (.le (.m 2 .v1) (.a .v0 .v2)) (.lt (.a .v0 .v2) (.a (.m 2 .v1) (.k 2))))] (.le .v0 .v1) (.d 12101) rfl hge (J6 _ 2 (by decide)),by exact ln4 [(.le .v2 .v1),(.no (.le .v2 .v3)),(.an (.le (.m 2 .v0) (.a .v3 .v2)) (.lt (.a .v3 .v2) (.a (.m 2 .v0) (.k 2))))] (.le .v0 .v1) (.d 12211) rfl hrk hge (J6 _ 2 (by decide)),by lia,hlo,fun i h1 h2=>?_⟩
     exact Z4 (Yv hless) (hs' _ _ (by exact ln2 [] (.le .v0 (.a .v0 .v1)) (.d 11) rfl) (by exact ln3 [(.le .v1 .v2)] (.le (.a .v0 .v1) (.a .v0 .v2)) (.d 111) rfl h1) (by exact ln3 [(.lt .v1 .v2)] (.lt (.a .v0 .v1) (.a .v0 .v2)) (.d 111) rfl h2))
    case true=>
     simp only[Bool.not_true,Bool.false_eq_true,if_false]
     refine wpS_pure ⟨rfl,(l+r) / 2+1,r,rfl,by exact ln3 [(.no (.le .v1 .v2)),(.an (.le (.m 2 .v0) (.a .v2 .v1)) (.lt (.a .v2 .v1) (.a (.m 2 .v0) (.k 2))))] (.le (.a .v0 .k1) .v1) (.d 1211) rfl hge (J6 _ 2 (by decide)),by exact ln2 [(.le .v0 .v1)] (.le .v0 .v1) (.d 111) rfl hrk,by lia,fun i h1=>?_,hhi⟩
     exact Z4 (hs' (lo+i) (lo+(l+r) / 2) (by exact ln2 [] (.le .v0 (.a .v0 .v1)) (.d 11) rfl) (by exact ln3 [(.lt .v1 (.a .v2 .k1))] (.le (.a .v0 .v1) (.a .v0 .v2)) (.d 111) rfl h1) (by exact ln5 [(.le .v3 .v2),(.no (.le .v3 .v4)),(.an (.le (.m 2 .v1) (.a .v4 .v3)) (.lt (.a .v4 .v3) (.a (.m 2 .v1) (.k 2))))] (.lt (.a .v0 .v1) (.a .v0 .v2)) (.d 12211) rfl hrk hge (J6 _ 2 (by decide)))) hless
  case ipost=>
   intro c st'' hR2
   refine byC fun hX=>?_;revert hR2;refine Zn9 fun hO0 l r hO3 hlk hlo hhi=>?_;obtain rfl:=hO0;obtain rfl:=hO3;refine hX ?_;clear hX
   show wpS _ _ _ _ (do moveDown' (lo+k) (lo+l);pure (ForInStep.yield (none,()))) _ _
   rw[moveDown'_eq]
   refine wpS_bind (wpS_modify (wpS_pure ⟨rfl,hB'.bubble (by exact ln5 [(.sb .v1 (.a .v0 .v3) .v2),(.sb .v2 (.a .v0 .v3) (.a .v0 .v4))] (.le .v0 .v1) (.s (.s (.d 1100101) (.d 1100101)) (.s (.d 1110101) (.d 1110101))) rfl (Zd _ _) (Zd _ _)) (by exact ln4 [(.sb .v0 (.a .v1 .v2) (.a .v1 .v3))] (.le .v0 (.a .v1 .v2)) (.s (.d 1101) (.d 1101)) rfl (Zd _ _)) (by exact ln3 [(.lt .v1 .v2)] (.lt (.a .v0 .v1) (.a .v0 .v2)) (.d 111) rfl hkn) hn,hg,?_⟩))
   rw[show min (k+1) n=k+1 by exact ln3 [(.lt .v1 .v2),(.mi .v0 (.a .v1 .k1) .v2)] (.eq .v0 (.a .v1 .k1)) (.s (.s (.d 110001) (.d 111001)) (.s (.d 11001) (.d 11011))) rfl hkn (Yc _ _)]
   have hks:lo+k<(arrOf st'').size:=by rw[hB'.size];exact hk
   have hlo':∀i,lo≤i→i<lo+l→T3.le (KS key (arrOf st'') i) (KS key (arrOf st'') (lo+k))=true:=fun i h1 h2=>by
    have:=hlo (i-lo) (by exact ln4 [(.le .v2 .v3),(.lt .v3 (.a .v2 .v1)),(.sb .v0 .v3 .v2)] (.lt .v0 .v1) (.s (.d 110101) (.d 111101)) rfl h1 h2 (Zd _ _));rwa [show lo+(i-lo)=i by exact ln3 [(.le .v0 .v2),(.sb .v1 .v2 .v0)] (.eq (.a .v0 .v1) .v2) (.s (.s (.d 110001) (.d 110101)) (.s (.d 11001) (.d 11101))) rfl h1 (Zd _ _)] at this
   have hhi':∀i,lo+l≤i→i<lo+k→T3.le (KS key (arrOf st'') (lo+k)) (KS key (arrOf st'') i)=true:=fun i h1 h2=>by
    have:=hhi (i-lo) (by exact ln4 [(.le (.a .v2 .v0) .v3),(.sb .v1 .v3 .v2)] (.le .v0 .v1) (.s (.d 111001) (.d 111101)) rfl h1 (Zd _ _)) (by exact ln5 [(.le (.a .v2 .v3) .v4),(.lt .v4 (.a .v2 .v1)),(.sb .v0 .v4 .v2)] (.lt .v0 .v1) (.s (.d 110101) (.d 111101)) rfl h1 h2 (Zd _ _));rwa [show lo+(i-lo)=i by exact ln4 [(.le (.a .v0 .v3) .v2),(.sb .v1 .v2 .v0)] (.eq (.a .v0 .v1) .v2) (.s (.s (.d 110001) (.d 110101)) (.s (.d 11001) (.d 11101))) rfl h1 (Zd _ _)] at this
   intro i j hi hij hj
   have hpq:lo+l≤lo+k:=Nat.add_le_add_left hlk lo
   have e:=fun x=>(Zkw (key:=key) hks (Nat.sub_le _ _) x).trans (Zs0 hpq _ _ _)
   exact ((congr (congrArg T3.le (e i)) (e j)).trans (Zpf (Nat.le_add_right lo l) hpq hs' hlo' hhi' hi hij (Nat.le_of_lt_succ hj)))
end
noncomputable def Zfl (lo a nrem:Nat):StateT SortSt Sem AscSt :=
 forIn [a:nrem] ((none,a):AscSt) fun u_ r=>do
  let x ← ltAt' (lo+r.snd) (lo+r.snd-1)
  match x with
  | some smaller=>if smaller=true then pure (ForInStep.done (none,r.snd)) else pure (ForInStep.yield (none,r.snd+1))
  | _=>pure (ForInStep.done (some none,r.snd))
noncomputable def Zjf (lo n nrem:Nat):StateT SortSt Sem (Option Nat):=do
 reverseSlice' lo (lo+n)
 let r ← Zfl lo n nrem
 match r.fst with
 | some r=>pure r
 | none=>pure (some r.snd)
noncomputable def Zea (lo n nrem:Nat):StateT SortSt Sem DescSt :=
 forIn [n:nrem] ((none,n,0):DescSt) fun u_ r=>do
  let x ← ltAt' (lo+r.snd.fst) (lo+r.snd.fst-1)
  match x with
  | some smaller=>
   if smaller=true then
    if r.snd.snd>0 then do
     reverseSlice' (lo+r.snd.fst-(r.snd.snd+1)) (lo+r.snd.fst)
     pure (ForInStep.yield (none,r.snd.fst+1,0))
    else pure (ForInStep.yield (none,r.snd.fst+1,0))
   else do
    let x ← ltAt' (lo+r.snd.fst-1) (lo+r.snd.fst)
    match x with
    | some larger=>
     if larger=true then pure (ForInStep.done (none,r.snd.fst,r.snd.snd))
     else pure (ForInStep.yield (none,r.snd.fst+1,r.snd.snd+1))
    | _=>pure (ForInStep.done (some none,r.snd.fst,r.snd.snd))
  | _=>pure (ForInStep.done (some none,r.snd.fst,r.snd.snd))
noncomputable def Zg3 (lo n nrem:Nat):StateT SortSt Sem (Option Nat):=do
 liftM (rule "list.sort.descending-run")
 let r ← Zea lo (n+1) nrem
 match r.fst with
 | some r=>pure r
 | none=>
  if r.snd.snd>0 then do
   reverseSlice' (lo+r.snd.fst-(r.snd.snd+1)) (lo+r.snd.fst)
   Zjf lo r.snd.fst nrem
  else Zjf lo r.snd.fst nrem
theorem Zkx (lo nrem:Nat):countRun' lo nrem=(do
  let r ← Zfl lo 1 nrem
  match r.fst with
  | some r=>pure r
  | none=>
   if (r.snd == nrem)=true then pure (some r.snd)
   else if r.snd>1 then do
    let x ← ltAt' lo (lo+r.snd-1)
    match x with
    | some rose => if rose = true then pure (some r.snd) else do
      reverseSlice' lo (lo+r.snd)
      Zg3 lo r.snd nrem
    | _=>pure none
   else Zg3 lo r.snd nrem):=by
 rw[countRun'_eq]
 refine congrArg (Zfl lo 1 nrem >>= ·) (funext fun r=>?_)
 refine byC fun hX=>?_;obtain ⟨r,n⟩:=r;refine hX ?_;clear hX
 cases r with
 | some r=>rfl
 | none=>
  dsimp only
  have key : (do
    liftM (rule "list.sort.descending-run")
    let r ← Zea lo (n+1) nrem
    match r.fst with
    | some r=>pure r
    | none=>
     if r.snd.snd>0 then do
      reverseSlice' (lo+r.snd.fst-(r.snd.snd+1)) (lo+r.snd.fst)
      reverseSlice' lo (lo+r.snd.fst)
      let r3 ← Zfl lo r.snd.fst nrem
      match r3.fst with
      | some r=>pure r
      | none=>pure (some r3.snd)
     else do
      reverseSlice' lo (lo+r.snd.fst)
      let r3 ← Zfl lo r.snd.fst nrem
      match r3.fst with
      | some r=>pure r
      | none=>pure (some r3.snd):StateT SortSt Sem (Option Nat))=Zg3 lo n nrem:=rfl
  split
  ·rfl
  ·split
   ·congr 1
    funext x
    cases x with
    | none=>rfl
    | some rose=>
     dsimp only
     split
     ·rfl
     ·congr 1
      funext _u
      rw[← key]
      unfold Zea Zfl
      congr 1;funext _u;congr 1;congr 1;funext s2;obtain ⟨r2,n2,q2⟩:=s2
      cases r2 with
      | some r2=>rfl
      | none=>
       dsimp only
       split
       ·congr 1;funext _v;congr 1;funext _w;congr 1;funext s3;obtain ⟨r3,n3⟩:=s3;cases r3 <;> rfl
       ·congr 1;funext _w;congr 1;funext s3;obtain ⟨r3,n3⟩:=s3;cases r3 <;> rfl
   ·rw[← key]
    unfold Zea Zfl
    congr 1;funext _u;congr 1;congr 1;funext s2;obtain ⟨r2,n2,q2⟩:=s2
    cases r2 with
    | some r2=>rfl
    | none=>
     dsimp only
     split
     ·congr 1;funext _v;congr 1;funext _w;congr 1;funext s3;obtain ⟨r3,n3⟩:=s3;cases r3 <;> rfl
     ·congr 1;funext _w;congr 1;funext s3;obtain ⟨r3,n3⟩:=s3;cases r3 <;> rfl
section
variable {prog:Program}{w:World}{A:Around}{E:Value→Shared→Prop}{s:Shared}{a₀:Array Keyed}{κ:SortKind}{key:Keyed→T3}
theorem SegS.snoc {xs:Array Keyed}{lo x:Nat}(hs:SegS key xs lo (lo+x))(hx:1≤x)(h:T3.le (KS key xs (lo+x-1)) (KS key xs (lo+x))=true):SegS key xs lo (lo+(x+1)):=by
 intro i j hi hij hj
 by_cases hjx:j<lo+x
 ·exact hs i j hi hij hjx
 ·have hj':j=lo+x:=by exact ln3 [(.lt .v0 (.a .v1 (.a .v2 .k1))),(.no (.lt .v0 (.a .v1 .v2)))] (.eq .v0 (.a .v1 .v2)) (.s (.d 1101) (.d 111)) rfl hj hjx
  subst hj'
  by_cases hi':i=lo+x
  ·subst hi';exact Ui _
  ·exact Z4 (hs i (lo+x-1) hi (by exact ln4 [(.le .v0 (.a .v2 .v3)),(.no (.eq .v0 (.a .v2 .v3))),(.sb .v1 (.a .v2 .v3) .k1)] (.le .v0 .v1) (.s (.s (.d 1101001) (.d 1101101)) (.s (.d 1011) (.d 1011))) rfl hij hi' (Zd _ _)) (by exact ln3 [(.le .k1 .v2),(.sb .v0 (.a .v1 .v2) .k1)] (.lt .v0 (.a .v1 .v2)) (.s (.d 11001) (.d 11101)) rfl hx (Zd _ _))) h
theorem SegD.snoc {xs:Array Keyed}{lo x:Nat}(hs:SegD key xs lo (lo+x))(hx:1≤x)(h:T3.le (KS key xs (lo+x)) (KS key xs (lo+x-1))=true):SegD key xs lo (lo+(x+1)):=by
 intro i j hi hij hj
 by_cases hjx:j<lo+x
 ·exact hs i j hi hij hjx
 ·have hj':j=lo+x:=by exact ln3 [(.lt .v0 (.a .v1 (.a .v2 .k1))),(.no (.lt .v0 (.a .v1 .v2)))] (.eq .v0 (.a .v1 .v2)) (.s (.d 1101) (.d 111)) rfl hj hjx
  subst hj'
  by_cases hi':i=lo+x
  ·subst hi';exact Ui _
  ·exact Z4 h (hs i (lo+x-1) hi (by exact ln4 [(.le .v0 (.a .v2 .v3)),(.no (.eq .v0 (.a .v2 .v3))),(.sb .v1 (.a .v2 .v3) .k1)] (.le .v0 .v1) (.s (.s (.d 1101001) (.d 1101101)) (.s (.d 1011) (.d 1011))) rfl hij hi' (Zd _ _)) (by exact ln3 [(.le .k1 .v2),(.sb .v0 (.a .v1 .v2) .k1)] (.lt .v0 (.a .v1 .v2)) (.s (.d 11001) (.d 11101)) rfl hx (Zd _ _)))
theorem Zg4 {lo hi:Nat}{st0 st:SortSt}{a nrem:Nat}{Q:AscSt→SortSt→Prop}(H:Wl prog w A E s κ a₀ key)(hn:lo+nrem≤a₀.size)(ha:1≤a)(han:a≤nrem)(hB:SB a₀ κ lo hi st0 st)(hs:SegS key (arrOf st) lo (lo+a))
  (h:∀n,a≤n→n≤nrem→SegS key (arrOf st) lo (lo+n)→(n=nrem∨T3.le (KS key (arrOf st) (lo+n)) (KS key (arrOf st) (lo+n-1))=true)→Q (none,n) st) :
  wpS (model prog w) A E s (Zfl lo a nrem) Q st:=by
 unfold Zfl
 refine wpS_forRange (I:=fun x c st'=>st'=st∧c=(none,x)∧SegS key (arrOf st) lo (lo+x)) ?step ?fin ⟨rfl,rfl,hs⟩
 case fin=>
  intro c st' hX2
  refine byC fun hnX=>?_
  obtain ⟨rfl,rfl,hs'⟩:=hX2
  refine hnX ?_
  clear hnX
  rw[show max a nrem=nrem by lia] at hs' ⊢
  exact h nrem han (Nat.le_refl _) hs' (.inl rfl)
 case step=>
  intro x c st' hax hxn hX5
  refine byC fun hnX=>?_
  obtain ⟨rfl,rfl,hs'⟩:=hX5
  refine hnX ?_
  clear hnX
  skip
  refine wpS_bind (Zc6 H hB (by exact ln4 [(.le (.a .v0 .v3) .v2),(.lt .v1 .v3)] (.lt (.a .v0 .v1) .v2) (.d 1111) rfl hn hxn) (by exact ln5 [(.le (.a .v2 .v3) .v1),(.lt .v4 .v3),(.sb .v0 (.a .v2 .v4) .k1)] (.lt .v0 .v1) (.s (.d 111101) (.d 111101)) rfl hn hxn (Zd _ _)) ?_)
  cases hless:T3.le (KS key (arrOf st') (lo+x-1)) (KS key (arrOf st') (lo+x))
  case false=>
   simp only[Bool.not_false,if_true]
   exact wpS_pure (h x hax (by exact ln2 [(.lt .v0 .v1)] (.le .v0 .v1) (.d 111) rfl hxn) hs' (.inr (Yv hless)))
  case true=>
   simp only[Bool.not_true,Bool.false_eq_true,if_false]
   exact wpS_pure ⟨rfl,rfl,hs'.snoc (by exact ln2 [(.le .k1 .v1),(.le .v1 .v0)] (.le .k1 .v0) (.d 1111) rfl ha hax) hless⟩
theorem Zeb {lo:Nat}{st0 st:SortSt}{n nrem:Nat}{Q:Option Nat→SortSt→Prop}(H:Wl prog w A E s κ a₀ key)(hn:lo+nrem≤a₀.size)(h1:1≤n)(hnn:n≤nrem)(hB:SB a₀ κ lo (lo+nrem) st0 st)
  (hs:SegD key (arrOf st) lo (lo+n)) (h:∀m st',SB a₀ κ lo (lo+nrem) st0 st'→gallopOf st'=gallopOf st→1≤m→m≤nrem→SegS key (arrOf st') lo (lo+m)→Q (some m) st') :
  wpS (model prog w) A E s (Zjf lo n nrem) Q st:=by
 unfold Zjf
 have hsz:lo+n≤(arrOf st).size:=by rw[hB.size];exact ln4 [(.le (.a .v0 .v3) .v2),(.le .v1 .v3)] (.le (.a .v0 .v1) .v2) (.d 1111) rfl hn hnn
 refine wpS_bind (wpS_reverse ?_)
 have hB':=hB.mirror (i:=lo) (j:=lo+n) (Nat.le_refl _) (by exact ln3 [(.le .v1 .v2)] (.le (.a .v0 .v1) (.a .v0 .v2)) (.d 111) rfl hnn) hn
 refine wpS_bind (Zg4 H hn h1 hnn hB' ?_ fun m hm1 hm2 hsm u_=>wpS_pure (h m _ hB' rfl (by exact ln2 [(.le .k1 .v1),(.le .v1 .v0)] (.le .k1 .v0) (.d 1111) rfl h1 hm1) hm2 hsm))
 intro i j hi hij hj
 show T3.le (KS key (mirror (arrOf st) lo (lo+n) ((lo+n-lo) / 2)) i) (KS key (mirror (arrOf st) lo (lo+n) ((lo+n-lo) / 2)) j)=true
 rw[Zbn hsz,Zbn hsz,if_pos (by exact ln4 [(.le .v0 .v1),(.le .v1 .v3),(.lt .v3 (.a .v0 .v2))] (.an (.le .v0 .v1) (.lt .v1 (.a .v0 .v2))) (.s (.d 111) (.d 11011)) rfl hi hij hj),if_pos (by exact ln4 [(.le .v0 .v3),(.le .v3 .v1),(.lt .v1 (.a .v0 .v2))] (.an (.le .v0 .v1) (.lt .v1 (.a .v0 .v2))) (.s (.d 1111) (.d 11001)) rfl hi hij hj)]
 exact hs _ _ (by exact ln5 [(.lt .v2 (.a .v0 .v3)),(.sb .v1 .v4 .v2),(.sb .v4 (.a .v0 (.a .v0 .v3)) .k1)] (.le .v0 .v1) (.s (.s (.d 111001001) (.d 111001101)) (.s (.d 111101001) (.d 111101101))) rfl hj (Zd _ _) (Zd _ _)) (by exact ln5 [(.le .v2 .v3),(.sb .v1 .v4 .v2),(.sb .v0 .v4 .v3)] (.le .v0 .v1) (.s (.s (.d 11100101) (.d 11010101)) (.s (.d 11110101) (.d 11000101))) rfl hij (Zd _ _) (Zd _ _)) (by exact ln6 [(.le .v1 .v3),(.lt .v4 (.a .v1 .v2)),(.sb .v0 .v5 .v3),(.sb .v5 (.a .v1 (.a .v1 .v2)) .k1)] (.lt .v0 (.a .v1 .v2)) (.s (.s (.d 111001001) (.d 111101001)) (.s (.d 12000201) (.d 110101))) rfl hi hj (Zd _ _) (Zd _ _))
theorem Zky {lo:Nat}{st0 st:SortSt}{n nrem:Nat}{Q:DescSt→SortSt→Prop}(H:Wl prog w A E s κ a₀ key)(hn:lo+nrem≤a₀.size)(h1:1≤n)(hnn:n≤nrem)(hB:SB a₀ κ lo (lo+nrem) st0 st)(hs:SegD key (arrOf st) lo (lo+n))
  (h:∀m neq st',SB a₀ κ lo (lo+nrem) st0 st'→gallopOf st'=gallopOf st→n≤m→m≤nrem→SegD key (arrOf st') lo (lo+m)→neq+1≤m→(∀i,lo+m-(neq+1)≤i→i<lo+m→KS key (arrOf st') i=KS key (arrOf st') (lo+m-1))→Q (none,m,neq) st') :
  wpS (model prog w) A E s (Zea lo n nrem) Q st:=by
 unfold Zea
 refine wpS_forRange (I := fun x c st' => ∃ neq, c = (none, x, neq) ∧ SB a₀ κ lo (lo + nrem) st0 st' ∧ gallopOf st' = gallopOf st ∧ SegD key (arrOf st') lo (lo + x) ∧ neq + 1 ≤ x ∧
   (∀i,lo+x-(neq+1)≤i→i<lo+x→KS key (arrOf st') i=KS key (arrOf st') (lo+x-1))) ?step ?fin ⟨0,rfl,hB,rfl,hs,by exact ln1 [(.le .k1 .v0)] (.le (.a .k0 .k1) .v0) (.d 111) rfl h1,fun i h1 h2=>by congr 1;exact ln4 [(.le .v1 .v0),(.lt .v0 (.a .v2 .v3)),(.sb .v1 (.a .v2 .v3) (.a .k0 .k1))] (.eq .v0 .v1) (.s (.s (.d 111) (.d 111)) (.s (.d 1101001) (.d 1101101))) rfl h1 h2 (Zd _ _)⟩
 case fin=>
  intro c st' hX2
  refine byC fun hnX=>?_
  obtain ⟨neq,rfl,hB',hg,hs',hq,he⟩:=hX2
  refine hnX ?_
  clear hnX
  rw[show max n nrem=nrem by lia] at hs' hq he ⊢
  exact h nrem neq st' hB' hg hnn (Nat.le_refl _) hs' hq he
 case step=>
  intro x c st' hax hxn hX5
  refine byC fun hnX=>?_
  obtain ⟨neq,rfl,hB',hg,hs',hq,he⟩:=hX5
  refine hnX ?_
  clear hnX
  dsimp only
  have hsz:lo+x≤(arrOf st').size:=by rw[hB'.size];exact ln4 [(.le (.a .v0 .v3) .v2),(.lt .v1 .v3)] (.le (.a .v0 .v1) .v2) (.d 1111) rfl hn hxn
  refine wpS_bind (Zc6 H hB' (by exact ln4 [(.le (.a .v0 .v3) .v2),(.lt .v1 .v3)] (.lt (.a .v0 .v1) .v2) (.d 1111) rfl hn hxn) (by exact ln5 [(.le (.a .v2 .v3) .v1),(.lt .v4 .v3),(.sb .v0 (.a .v2 .v4) .k1)] (.lt .v0 .v1) (.s (.d 111101) (.d 111101)) rfl hn hxn (Zd _ _)) ?_)
  cases hless:T3.le (KS key (arrOf st') (lo+x-1)) (KS key (arrOf st') (lo+x))
  case false=>
   simp only[Bool.not_false,if_true]
   have hsn:=hs'.snoc (by exact ln2 [(.le .k1 .v1),(.le .v1 .v0)] (.le .k1 .v0) (.d 1111) rfl h1 hax) (Yv hless)
   by_cases hneq:neq>0
   ·rw[if_pos hneq]
    refine wpS_bind (wpS_reverse (wpS_pure ⟨0,rfl,hB'.mirror (by exact ln4 [(.le (.a .v2 .k1) .v3),(.sb .v1 (.a .v0 .v3) (.a .v2 .k1))] (.le .v0 .v1) (.s (.d 111001) (.d 111101)) rfl hq (Zd _ _)) (by exact ln3 [(.lt .v1 .v2)] (.le (.a .v0 .v1) (.a .v0 .v2)) (.d 111) rfl hxn) hn,hg,fun i j hi hij hj=>?_,by exact ln1 [] (.le (.a .k0 .k1) (.a .v0 .k1)) (.d 11) rfl,fun i h1 h2=>by congr 1;exact ln4 [(.le .v1 .v0),(.lt .v0 (.a .v2 (.a .v3 .k1))),(.sb .v1 (.a .v2 (.a .v3 .k1)) (.a .k0 .k1))] (.eq .v0 .v1) (.s (.s (.d 111) (.d 111)) (.s (.d 1101001) (.d 1101101))) rfl h1 h2 (Zd _ _)⟩))
    show T3.le (KS key (mirror (arrOf st') _ _ _) j) (KS key (mirror (arrOf st') _ _ _) i)=true
    rw[Y1 hsz he,Y1 hsz he]
    exact hsn i j hi hij hj
   ·rw[if_neg hneq]
    exact wpS_pure ⟨0,rfl,hB',hg,hsn,by exact ln1 [] (.le (.a .k0 .k1) (.a .v0 .k1)) (.d 11) rfl,fun i h1 h2=>by congr 1;exact ln4 [(.le .v1 .v0),(.lt .v0 (.a .v2 (.a .v3 .k1))),(.sb .v1 (.a .v2 (.a .v3 .k1)) (.a .k0 .k1))] (.eq .v0 .v1) (.s (.s (.d 111) (.d 111)) (.s (.d 1101001) (.d 1101101))) rfl h1 h2 (Zd _ _)⟩
  case true=>
   simp only[Bool.not_true,Bool.false_eq_true,if_false]
   refine wpS_bind (Zc6 H hB' (by exact ln5 [(.le (.a .v2 .v3) .v1),(.lt .v4 .v3),(.sb .v0 (.a .v2 .v4) .k1)] (.lt .v0 .v1) (.s (.d 111101) (.d 111101)) rfl hn hxn (Zd _ _)) (by exact ln4 [(.le (.a .v0 .v3) .v2),(.lt .v1 .v3)] (.lt (.a .v0 .v1) .v2) (.d 1111) rfl hn hxn) ?_)
   cases hlarger:T3.le (KS key (arrOf st') (lo+x)) (KS key (arrOf st') (lo+x-1))
   case false=>
    simp only[Bool.not_false,if_true]
    exact wpS_pure (h x neq st' hB' hg hax (by exact ln2 [(.lt .v0 .v1)] (.le .v0 .v1) (.d 111) rfl hxn) hs' hq he)
   case true=>
    simp only[Bool.not_true,Bool.false_eq_true,if_false]
    have heqx:KS key (arrOf st') (lo+x)=KS key (arrOf st') (lo+x-1):=X1 hlarger hless
    refine wpS_pure ⟨neq+1,rfl,hB',hg,hs'.snoc (by exact ln2 [(.le .k1 .v1),(.le .v1 .v0)] (.le .k1 .v0) (.d 1111) rfl h1 hax) hlarger,by exact ln2 [(.le (.a .v0 .k1) .v1)] (.le (.a (.a .v0 .k1) .k1) (.a .v1 .k1)) (.d 111) rfl hq,fun i h1 h2=>?_⟩
    rw[show lo+(x+1)-1=lo+x by exact ln3 [(.sb .v0 (.a .v1 (.a .v2 .k1)) .k1)] (.eq .v0 (.a .v1 .v2)) (.s (.s (.d 11001) (.d 11101)) (.s (.d 1101) (.d 1101))) rfl (Zd _ _)]
    by_cases hix:i=lo+x
    ·subst hix;rfl
    ·rw[heqx];exact he i (by exact ln6 [(.le .v2 .v1),(.sb .v2 (.a .v4 (.a .v5 .k1)) (.a (.a .v3 .k1) .k1)),(.sb .v0 (.a .v4 .v5) (.a .v3 .k1))] (.le .v0 .v1) (.s (.s (.d 11100101) (.d 11110101)) (.s (.d 11110101) (.d 11100101))) rfl h1 (Zd _ _) (Zd _ _)) (by exact ln3 [(.lt .v0 (.a .v1 (.a .v2 .k1))),(.no (.eq .v0 (.a .v1 .v2)))] (.lt .v0 (.a .v1 .v2)) (.s (.d 1101) (.d 1011)) rfl h2 hix)
theorem Zec {lo:Nat}{st0 st:SortSt}{n nrem:Nat}{Q:Option Nat→SortSt→Prop}(H:Wl prog w A E s κ a₀ key)(hn:lo+nrem≤a₀.size)(hnn:n+1≤nrem)(hB:SB a₀ κ lo (lo+nrem) st0 st)
  (hs:SegD key (arrOf st) lo (lo+(n+1))) (h:∀m st',SB a₀ κ lo (lo+nrem) st0 st'→gallopOf st'=gallopOf st→1≤m→m≤nrem→SegS key (arrOf st') lo (lo+m)→Q (some m) st') :
  wpS (model prog w) A E s (Zg3 lo n nrem) Q st:=by
 unfold Zg3
 refine wpS_bind (wpS_lift (wpAny_rule ⟨rfl,?_⟩))
 refine wpS_bind (Zky H hn (by exact ln1 [] (.le .k1 (.a .v0 .k1)) (.d 11) rfl) hnn hB hs fun m neq st' hB' hg hm1 hm2 hs' hq he=>?_)
 dsimp only
 have hsz:lo+m≤(arrOf st').size:=by rw[hB'.size];exact ln4 [(.le (.a .v0 .v3) .v2),(.le .v1 .v3)] (.le (.a .v0 .v1) .v2) (.d 1111) rfl hn hm2
 by_cases hneq:neq>0
 ·rw[if_pos hneq]
  refine wpS_bind (wpS_reverse (Zeb H hn (by exact ln2 [(.le (.a .v1 .k1) .v0)] (.le .k1 .v0) (.d 111) rfl hq) hm2 (hB'.mirror (by exact ln4 [(.le (.a .v2 .k1) .v3),(.sb .v1 (.a .v0 .v3) (.a .v2 .k1))] (.le .v0 .v1) (.s (.d 111001) (.d 111101)) rfl hq (Zd _ _)) (by exact ln3 [(.le .v1 .v2)] (.le (.a .v0 .v1) (.a .v0 .v2)) (.d 111) rfl hm2) hn) ?_ fun m' st2 g1 g2=>h m' st2 g1 (g2.trans hg)))
  intro i j hi hij hj
  show T3.le (KS key (mirror (arrOf st') _ _ _) j) (KS key (mirror (arrOf st') _ _ _) i)=true
  rw[Y1 hsz he,Y1 hsz he]
  exact hs' i j hi hij hj
 ·rw[if_neg hneq]
  exact Zeb H hn (by exact ln2 [(.le (.a .v1 .k1) .v0)] (.le .k1 .v0) (.d 111) rfl hm1) hm2 hB' hs' fun m' st2 g1 g2=>h m' st2 g1 (g2.trans hg)
theorem Zkz {lo:Nat}{st:SortSt}{nrem:Nat}{Q:Option Nat→SortSt→Prop}(H:Wl prog w A E s κ a₀ key)(hn:lo+nrem≤a₀.size)(h1:1≤nrem)(hB:SB a₀ κ lo (lo+nrem) st st)
  (h:∀m st',SB a₀ κ lo (lo+nrem) st st'→gallopOf st'=gallopOf st→1≤m→m≤nrem→SegS key (arrOf st') lo (lo+m)→Q (some m) st') :
  wpS (model prog w) A E s (countRun' lo nrem) Q st:=by
 rw[Zkx]
 refine wpS_bind (Zg4 H hn (Nat.le_refl 1) h1 hB (fun i j hi hij hj=>by have:i=j:=(by exact ln3 [(.le .v2 .v0),(.le .v0 .v1),(.lt .v1 (.a .v2 .k1))] (.eq .v0 .v1) (.s (.d 11101) (.d 1101)) rfl hi hij hj);subst this;exact Ui _) fun n hn1 hn2 hsn hor=>?_)
 skip
 by_cases hnn:n=nrem
 ·rw[if_pos (by simpa using hnn)]
  exact wpS_pure (h n st hB rfl hn1 hn2 hsn)
 ·rw[if_neg (by simpa using hnn)]
  have hlt:=hor.resolve_left hnn
  by_cases hgt:n>1
  ·rw[if_pos hgt]
   refine wpS_bind (Zc6 H hB (by exact ln3 [(.le (.a .v0 .v2) .v1),(.le .k1 .v2)] (.lt .v0 .v1) (.d 1111) rfl hn h1) (by exact ln5 [(.le (.a .v2 .v3) .v1),(.le .k1 .v3),(.le .v4 .v3),(.sb .v0 (.a .v2 .v4) .k1)] (.lt .v0 .v1) (.s (.d 1110101) (.d 1111001)) rfl hn h1 hn2 (Zd _ _)) ?_)
   cases hrose:T3.le (KS key (arrOf st) (lo+n-1)) (KS key (arrOf st) lo)
   case false=>
    simp only[Bool.not_false,if_true]
    exact wpS_pure (h n st hB rfl hn1 hn2 hsn)
   case true=>
    simp only[Bool.not_true,Bool.false_eq_true,if_false]
    have hsz:lo+n≤(arrOf st).size:=by rw[hB.size];exact ln4 [(.le (.a .v0 .v3) .v2),(.le .v1 .v3)] (.le (.a .v0 .v1) .v2) (.d 1111) rfl hn hn2
    have hall:∀k,lo≤k→k<lo+n→KS key (arrOf st) k=KS key (arrOf st) (lo+n-1):=by
     intro k hk1 hk
     have a1:=hsn lo k (Nat.le_refl _) hk1 hk
     have a2:=hsn k (lo+n-1) hk1 (by exact ln4 [(.lt .v0 (.a .v2 .v3)),(.sb .v1 (.a .v2 .v3) .k1)] (.le .v0 .v1) (.s (.d 111001) (.d 111101)) rfl hk (Zd _ _)) (by exact ln3 [(.lt .k1 .v2),(.sb .v0 (.a .v1 .v2) .k1)] (.lt .v0 (.a .v1 .v2)) (.s (.d 11001) (.d 11101)) rfl hgt (Zd _ _))
     exact X1 a2 (Z4 hrose a1)
    have hD:SegD key (arrOf st) lo (lo+(n+1)):=by
     refine SegD.snoc (fun i j hi hij hj=>?_) (by exact ln1 [(.le .k1 .v0)] (.le .k1 .v0) (.d 111) rfl hn1) hlt
     rw[hall i hi (by exact ln4 [(.le .v0 .v3),(.lt .v3 (.a .v1 .v2))] (.lt .v0 (.a .v1 .v2)) (.d 1111) rfl hij hj),hall j (by exact ln3 [(.le .v0 .v2),(.le .v2 .v1)] (.le .v0 .v1) (.d 1111) rfl hi hij) hj];exact Ui _
    refine wpS_bind (wpS_reverse (Zec H hn (by exact ln2 [(.le .v0 .v1),(.no (.eq .v0 .v1))] (.le (.a .v0 .k1) .v1) (.s (.d 1101) (.d 1011)) rfl hn2 hnn) (hB.mirror (Nat.le_refl _) (by exact ln3 [(.le .v1 .v2)] (.le (.a .v0 .v1) (.a .v0 .v2)) (.d 111) rfl hn2) hn) ?_ fun m' st2 g1 g2=>h m' st2 g1 g2))
    intro i j hi hij hj
    show T3.le (KS key (mirror (arrOf st) _ _ _) j) (KS key (mirror (arrOf st) _ _ _) i)=true
    rw[Y1 hsz hall,Y1 hsz hall]
    exact hD i j hi hij hj
  ·rw[if_neg hgt]
   have hn1':n=1:=by exact ln1 [(.le .k1 .v0),(.no (.lt .k1 .v0))] (.eq .v0 .k1) (.s (.d 111) (.d 1101)) rfl hn1 hgt
   subst hn1'
   refine Zec H hn (by lia) hB (SegD.snoc (fun i j hi hij hj=>?_) (by lia) hlt) h
   have:i=j:=by lia
   subst this;exact Ui _
end
noncomputable def J4:Bool→Keyed→Array Keyed→Nat→Nat→Nat→StateT SortSt Sem (Option Nat):=sortPriv% PySem.Builtin.gallop
theorem Zia (left:Bool)(key:Keyed)(arr:Array Keyed)(base n hint:Nat):J4 left key arr base n hint=(do
 let beyond (i:Nat):StateT SortSt Sem (Option Bool):=do
  let x ← elem' arr (base+i)
  if left then lt' x key else return (← lt' key x).map (!·)
 let mut lastofs:=0
 let mut ofs:=1
 let mut lo:=0
 let mut hi:=0
 let some right ← beyond hint | return none
 if right then
  let maxofs:=n-hint
  for _ in [0:n] do
   if ofs ≥ maxofs then break
   let some more ← beyond (hint+ofs) | return none
   if !more then break
   lastofs:=ofs
   ofs:=2*ofs+1
  lo:=hint+lastofs+1
  hi:=hint+min ofs maxofs
 else
  let maxofs:=hint+1
  for _ in [0:n] do
   if ofs ≥ maxofs then break
   let some found ← beyond (hint-ofs) | return none
   if found then break
   lastofs:=ofs
   ofs:=2*ofs+1
  lo:=hint+1-min ofs maxofs
  hi:=hint-lastofs
 for _ in [0:n] do
  if lo ≥ hi then break
  let m:=lo+(hi-lo) / 2
  let some more ← beyond m | return none
  if more then lo:=m+1 else hi:=m
 return some hi):=rfl
noncomputable def Zfm (beyond:Nat→StateT SortSt Sem (Option Bool))(n hint:Nat):StateT SortSt Sem (Option Nat):=do
 let mut lastofs:=0
 let mut ofs:=1
 let mut lo:=0
 let mut hi:=0
 let some right ← beyond hint | return none
 if right then
  let maxofs:=n-hint
  for _ in [0:n] do
   if ofs ≥ maxofs then break
   let some more ← beyond (hint+ofs) | return none
   if !more then break
   lastofs:=ofs
   ofs:=2*ofs+1
  lo:=hint+lastofs+1
  hi:=hint+min ofs maxofs
 else
  let maxofs:=hint+1
  for _ in [0:n] do
   if ofs ≥ maxofs then break
   let some found ← beyond (hint-ofs) | return none
   if found then break
   lastofs:=ofs
   ofs:=2*ofs+1
  lo:=hint+1-min ofs maxofs
  hi:=hint-lastofs
 for _ in [0:n] do
  if lo ≥ hi then break
  let m:=lo+(hi-lo) / 2
  let some more ← beyond m | return none
  if more then lo:=m+1 else hi:=m
 return some hi
noncomputable def Zcd (beyond:Nat→StateT SortSt Sem (Option Bool))(n lo hi:Nat):StateT SortSt Sem (Option Nat):=do
 let mut lo:=lo
 let mut hi:=hi
 for _ in [0:n] do
  if lo ≥ hi then break
  let m:=lo+(hi-lo) / 2
  let some more ← beyond m | return none
  if more then lo:=m+1 else hi:=m
 return some hi
section
variable {prog:Program}{w:World}{A:Around}{E:Value→Shared→Prop}{s:Shared}{a₀:Array Keyed}{κ:SortKind}{key:Keyed→T3}
theorem Zc7 {beyond:Nat→StateT SortSt Sem (Option Bool)}{n lo hi:Nat}{P:Nat→Bool}{st:SortSt}{Q:Option Nat→SortSt→Prop}(hb:∀i,i<n→∀(Q:Option Bool→SortSt→Prop),Q (some (P i)) st→wpS (model prog w) A E s (beyond i) Q st)
  (hm:∀i j,i≤j→j<n→P j=true→P i=true) (h1:lo≤hi) (h2:hi≤n) (hT:∀i,i<lo→P i=true) (hF:∀i,hi≤i→i<n→P i=false)
  (h:∀k,k≤n→(∀i,i<k→P i=true)→(∀i,k≤i→i<n→P i=false)→Q (some k) st):wpS (model prog w) A E s (Zcd beyond n lo hi) Q st:=by
 unfold Zcd
 refine wpS_bind (wpS_mono (wpS_forRange (I:=fun x c st'=>st'=st∧∃l r,c=(none,l,r)∧l≤r∧r≤n∧r-l≤n-x∧(∀i,i<l→P i=true)∧(∀i,r≤i→i<n→P i=false))
  (Q:=fun c st'=>st'=st∧∃k,c=(none,k,k)∧k≤n∧(∀i,i<k→P i=true)∧(∀i,k≤i→i<n→P i=false)) ?step ?fin ⟨rfl,lo,hi,rfl,h1,h2,by exact ln4 [(.le .v2 .v1),(.sb .v0 .v2 .v3)] (.le .v0 .v1) (.s (.d 11101) (.d 11101)) rfl h2 (Zd _ _),hT,hF⟩) ?post)
 case post=>
  intro c st' hX2
  refine byC fun hnX=>?_
  obtain ⟨rfl,k,rfl,hk,g1,g2⟩:=hX2
  refine hnX ?_
  clear hnX
  exact wpS_pure (h k hk g1 g2)
 case fin=>
  intro c st' hX2
  refine byC fun hnX=>?_
  obtain ⟨rfl,l,r,rfl,g1,g2,g3,g4,g5⟩:=hX2
  refine hnX ?_
  clear hnX
  have:l=r:=by exact ln5 [(.le .v0 .v1),(.le .v2 .v3),(.sb .v3 .v4 .v4),(.sb .v2 .v1 .v0)] (.eq .v0 .v1) (.s (.s (.s (.d 1101010001) (.d 11000001)) (.s (.d 1101010001) (.d 11000001))) (.s (.s (.d 111) (.d 111)) (.s (.d 111) (.d 111)))) rfl g1 g3 (Zd _ _) (Zd _ _)
  subst this
  exact ⟨rfl,l,rfl,g2,g4,g5⟩
 case step=>
  intro x c st' _ hx hX5
  refine byC fun hnX=>?_
  obtain ⟨rfl,l,r,rfl,g1,g2,g3,g4,g5⟩:=hX5
  refine hnX ?_
  clear hnX
  dsimp only
  by_cases hge:l ≥ r
  ·rw[if_pos hge]
   have:l=r:=by exact ln2 [(.le .v0 .v1),(.le .v1 .v0)] (.eq .v0 .v1) (.s (.d 1101) (.d 111)) rfl g1 hge
   subst this
   exact wpS_pure ⟨rfl,l,rfl,g2,g4,g5⟩
  ·rw[if_neg hge]
   refine wpS_bind (hb _ (by exact ln5 [(.le .v3 .v2),(.no (.le .v3 .v0)),(.an (.le (.m 2 .v1) .v4) (.lt .v4 (.a (.m 2 .v1) (.k 2)))),(.sb .v4 .v3 .v0)] (.lt (.a .v0 .v1) .v2) (.s (.d 12211001) (.d 1001001)) rfl g2 hge (J6 _ 2 (by decide)) (Zd _ _)) _ ?_)
   cases hp:P (l+(r-l) / 2) with
   | true=>
    simp only[if_true]
    exact wpS_pure ⟨rfl,_,r,rfl,by exact ln4 [(.no (.le .v2 .v0)),(.an (.le (.m 2 .v1) .v3) (.lt .v3 (.a (.m 2 .v1) (.k 2)))),(.sb .v3 .v2 .v0)] (.le (.a (.a .v0 .v1) .k1) .v2) (.s (.d 1211001) (.d 101001)) rfl hge (J6 _ 2 (by decide)) (Zd _ _),g2,by omega,fun i hi=>hm i _ (by exact ln3 [(.lt .v0 (.a (.a .v1 .v2) .k1))] (.le .v0 (.a .v1 .v2)) (.d 111) rfl hi) (by exact ln5 [(.le .v3 .v2),(.no (.le .v3 .v0)),(.an (.le (.m 2 .v1) .v4) (.lt .v4 (.a (.m 2 .v1) (.k 2)))),(.sb .v4 .v3 .v0)] (.lt (.a .v0 .v1) .v2) (.s (.d 12211001) (.d 1001001)) rfl g2 hge (J6 _ 2 (by decide)) (Zd _ _)) hp,g5⟩
   | false=>
    simp only[Bool.false_eq_true,if_false]
    refine wpS_pure ⟨rfl,l,_,rfl,by exact ln2 [] (.le .v0 (.a .v0 .v1)) (.d 11) rfl,by exact ln5 [(.le .v3 .v2),(.no (.le .v3 .v0)),(.an (.le (.m 2 .v1) .v4) (.lt .v4 (.a (.m 2 .v1) (.k 2)))),(.sb .v4 .v3 .v0)] (.le (.a .v0 .v1) .v2) (.s (.d 12211001) (.d 1001001)) rfl g2 hge (J6 _ 2 (by decide)) (Zd _ _),by exact lin [(.le .v2 .v3),(.an (.le (.m 2 .v4) .v2) (.lt .v2 (.a (.m 2 .v4) (.k 2)))),(.sb .v3 .v6 .v5),(.sb .v1 .v6 (.a .v5 .k1)),(.sb .v0 (.a .v7 .v4) .v7)] (.le .v0 .v1) (.s (.s (.s (.d 1211001010202) (.d 1100000010101)) (.s (.d 1211001010202) (.d 1100000000101))) (.s (.s (.d 100001001) (.d 100001001)) (.s (.d 1211001000202) (.d 1100000000101)))) rfl [_,_,_,_,_,_,_,_] [] g3 (J6 _ 2 (by decide)) (Zd _ _) (Zd _ _) (Zd _ _),g4,fun i h1 h2=>?_⟩
    cases hq:P i with
    | false=>rfl
    | true=>rw[hm _ i h1 h2 hq] at hp;cases hp
theorem Zg5 {beyond:Nat→StateT SortSt Sem (Option Bool)}{n hint:Nat}{P:Nat→Bool}{st:SortSt}{Q:Option Nat→SortSt→Prop}(hb:∀i,i<n→∀(Q:Option Bool→SortSt→Prop),Q (some (P i)) st→wpS (model prog w) A E s (beyond i) Q st)
  (hm:∀i j,i≤j→j<n→P j=true→P i=true) (hh:hint<n) (h:∀k,k≤n→(∀i,i<k→P i=true)→(∀i,k≤i→i<n→P i=false)→Q (some k) st):wpS (model prog w) A E s (Zfm beyond n hint) Q st:=by
 have hmF:∀i j,i≤j→j<n→P i=false→P j=false:=fun i j h1 h2 h3=>by
  cases hq:P j with
  | false=>rfl
  | true=>rw[hm i j h1 h2 hq] at h3;cases h3
 unfold Zfm
 refine wpS_bind (hb hint hh _ ?_)
 skip
 cases hr:P hint with
 | true=>
  simp only[if_true]
  refine wpS_bind (wpS_mono (wpS_forRange (I:=fun x c st'=>st'=st∧∃l o,c=(none,l,o)∧l<o∧x+1≤o∧hint+l<n∧P (hint+l)=true)
   (Q:=fun c st'=>st'=st∧∃l o,c=(none,l,o)∧l<o∧hint+l<n∧P (hint+l)=true∧(o ≥ n-hint∨(hint+o<n∧P (hint+o)=false))) ?step ?fin ⟨rfl,0,1,rfl,by exact lin [] (.lt .k0 .k1) (.d 11) rfl [] [],by exact lin [] (.le (.a .k0 .k1) .k1) (.d 11) rfl [] [],by exact ln2 [(.lt .v0 .v1)] (.lt (.a .v0 .k0) .v1) (.d 111) rfl hh,hr⟩) ?post)
  case fin=>
   intro c st' hX2
   refine byC fun hnX=>?_
   obtain ⟨rfl,l,o,rfl,g1,g2,g3,g4⟩:=hX2
   refine hnX ?_
   clear hnX
   exact ⟨rfl,l,o,rfl,g1,g3,g4,.inl (by exact ln4 [(.le (.a .v2 .k1) .v1),(.sb .v0 .v2 .v3)] (.le .v0 .v1) (.s (.d 11101) (.d 11101)) rfl g2 (Zd _ _))⟩
  case step=>
   intro x c st' _ hx hX5
   refine byC fun hnX=>?_
   obtain ⟨rfl,l,o,rfl,g1,g2,g3,g4⟩:=hX5
   refine hnX ?_
   clear hnX
   dsimp only
   by_cases hge:o ≥ n-hint
   ·rw[if_pos hge];exact wpS_pure ⟨rfl,l,o,rfl,g1,g3,g4,.inl hge⟩
   ·rw[if_neg hge]
    refine wpS_bind (hb _ (by exact ln4 [(.no (.le .v3 .v1)),(.sb .v3 .v2 .v0)] (.lt (.a .v0 .v1) .v2) (.s (.d 11101) (.d 10101)) rfl hge (Zd _ _)) _ ?_)
    cases hp:P (hint+o) with
    | true=>
     simp only[Bool.not_true,Bool.false_eq_true,if_false]
     exact wpS_pure ⟨rfl,o,2*o+1,rfl,by exact ln1 [] (.lt .v0 (.a (.m 2 .v0) .k1)) (.d 11) rfl,by exact ln2 [(.le (.a .v0 .k1) .v1)] (.le (.a (.a .v0 .k1) .k1) (.a (.m 2 .v1) .k1)) (.d 112) rfl g2,by exact ln4 [(.no (.le .v3 .v1)),(.sb .v3 .v2 .v0)] (.lt (.a .v0 .v1) .v2) (.s (.d 11101) (.d 10101)) rfl hge (Zd _ _),hp⟩
    | false=>
     simp only[Bool.not_false,if_true]
     exact wpS_pure ⟨rfl,l,o,rfl,g1,g3,g4,.inr ⟨by exact ln4 [(.no (.le .v3 .v1)),(.sb .v3 .v2 .v0)] (.lt (.a .v0 .v1) .v2) (.s (.d 11101) (.d 10101)) rfl hge (Zd _ _),hp⟩⟩
  case post=>
   intro c st' hX2
   refine byC fun hnX=>?_
   obtain ⟨rfl,l,o,rfl,g1,g2,g3,g4⟩:=hX2
   refine hnX ?_
   clear hnX
   show wpS _ _ _ _ (Zcd beyond n (hint+l+1) (hint+min o (n-hint))) Q st'
   refine Zc7 hb hm (by exact ln6 [(.lt .v1 .v3),(.lt (.a .v0 .v1) .v4),(.mi .v2 .v3 .v5),(.sb .v5 .v4 .v0)] (.le (.a (.a .v0 .v1) .k1) (.a .v0 .v2)) (.s (.s (.d 1110001) (.d 1110001)) (.s (.d 1101001001) (.d 1101001101))) rfl g1 g2 (Yc _ _) (Zd _ _)) (by exact ln5 [(.lt .v0 .v2),(.mi .v1 .v3 .v4),(.sb .v4 .v2 .v0)] (.le (.a .v0 .v1) .v2) (.s (.s (.d 11011001) (.d 1010001)) (.s (.d 11001001) (.d 1010001))) rfl hh (Yc _ _) (Zd _ _)) (fun i hi=>hm i _ (by exact ln3 [(.lt .v0 (.a (.a .v1 .v2) .k1))] (.le .v0 (.a .v1 .v2)) (.d 111) rfl hi) g2 g3) (fun i h1 h2=>?_) h
   rcases g4 with g4 | ⟨g4,g5⟩
   ·omega
   ·exact hmF _ i (by exact ln6 [(.le (.a .v0 .v3) .v2),(.lt (.a .v0 .v1) .v4),(.mi .v3 .v1 .v5),(.sb .v5 .v4 .v0)] (.le (.a .v0 .v1) .v2) (.s (.s (.d 1110001) (.d 1110001)) (.s (.d 1111001001) (.d 1111001101))) rfl h1 g4 (Yc _ _) (Zd _ _)) h2 g5
 | false=>
  simp only[Bool.false_eq_true,if_false]
  refine wpS_bind (wpS_mono (wpS_forRange (I:=fun x c st'=>st'=st∧∃l o,c=(none,l,o)∧l<o∧x+1≤o∧l≤hint∧P (hint-l)=false)
   (Q:=fun c st'=>st'=st∧∃l o,c=(none,l,o)∧l<o∧l≤hint∧P (hint-l)=false∧(o ≥ hint+1∨(o≤hint∧P (hint-o)=true))) ?step ?fin ⟨rfl,0,1,rfl,by exact lin [] (.lt .k0 .k1) (.d 11) rfl [] [],by exact lin [] (.le (.a .k0 .k1) .k1) (.d 11) rfl [] [],by exact ln1 [] (.le .k0 .v0) (.d 11) rfl,hr⟩) ?post)
  case fin=>
   intro c st' hX2
   refine byC fun hnX=>?_
   obtain ⟨rfl,l,o,rfl,g1,g2,g3,g4⟩:=hX2
   refine hnX ?_
   clear hnX
   exact ⟨rfl,l,o,rfl,g1,g3,g4,.inl (by exact ln3 [(.lt .v0 .v2),(.le (.a .v2 .k1) .v1)] (.le (.a .v0 .k1) .v1) (.d 1111) rfl hh g2)⟩
  case step=>
   intro x c st' _ hx hX5
   refine byC fun hnX=>?_
   obtain ⟨rfl,l,o,rfl,g1,g2,g3,g4⟩:=hX5
   refine hnX ?_
   clear hnX
   skip
   by_cases hge:o ≥ hint+1
   ·rw[if_pos hge];exact wpS_pure ⟨rfl,l,o,rfl,g1,g3,g4,.inl hge⟩
   ·rw[if_neg hge]
    refine wpS_bind (hb _ (by exact ln4 [(.lt .v2 .v1),(.sb .v0 .v2 .v3)] (.lt .v0 .v1) (.s (.d 11101) (.d 11101)) rfl hh (Zd _ _)) _ ?_)
    cases hp:P (hint-o) with
    | true=>
     simp only[if_true]
     exact wpS_pure ⟨rfl,l,o,rfl,g1,g3,g4,.inr ⟨by exact ln2 [(.no (.le (.a .v1 .k1) .v0))] (.le .v0 .v1) (.d 111) rfl hge,hp⟩⟩
    | false=>
     simp only[Bool.false_eq_true,if_false]
     exact wpS_pure ⟨rfl,o,2*o+1,rfl,by exact ln1 [] (.lt .v0 (.a (.m 2 .v0) .k1)) (.d 11) rfl,by exact ln2 [(.le (.a .v0 .k1) .v1)] (.le (.a (.a .v0 .k1) .k1) (.a (.m 2 .v1) .k1)) (.d 112) rfl g2,by exact ln2 [(.no (.le (.a .v1 .k1) .v0))] (.le .v0 .v1) (.d 111) rfl hge,hp⟩
  case post=>
   intro c st' hX2
   refine byC fun hnX=>?_
   obtain ⟨rfl,l,o,rfl,g1,g2,g3,g4⟩:=hX2
   refine hnX ?_
   clear hnX
   show wpS _ _ _ _ (Zcd beyond n (hint+1-min o (hint+1)) (hint-l)) Q st'
   refine Zc7 hb hm (by exact ln6 [(.lt .v2 .v3),(.sb .v1 .v4 .v2),(.sb .v0 (.a .v4 .k1) .v5),(.mi .v5 .v3 (.a .v4 .k1))] (.le .v0 .v1) (.s (.s (.s (.d 111001010001) (.d 110101010001)) (.s (.d 11010101) (.d 11010101))) (.s (.s (.d 111101010001) (.d 110001010001)) (.s (.d 11000101) (.d 11000101)))) rfl g1 (Zd _ _) (Zd _ _) (Yc _ _)) (by exact ln4 [(.lt .v2 .v1),(.sb .v0 .v2 .v3)] (.le .v0 .v1) (.s (.d 11101) (.d 11101)) rfl hh (Zd _ _)) (fun i hi=>?_) (fun i h1 h2=>hmF _ i h1 h2 g3) h
   rcases g4 with g4 | ⟨g4,g5⟩
   ·omega
   ·exact hm i _ (by exact ln6 [(.lt .v0 .v2),(.sb .v2 (.a .v4 .k1) .v3),(.mi .v3 .v5 (.a .v4 .k1)),(.sb .v1 .v4 .v5)] (.le .v0 .v1) (.s (.s (.s (.d 111010001001) (.d 111010001101)) (.s (.d 1000001001) (.d 111010001001))) (.s (.s (.d 1001000101) (.d 111010000001)) (.s (.d 1000001001) (.d 111010000001)))) rfl hi (Zd _ _) (Yc _ _) (Zd _ _)) (by exact ln4 [(.lt .v2 .v1),(.sb .v0 .v2 .v3)] (.lt .v0 .v1) (.s (.d 11101) (.d 11101)) rfl hh (Zd _ _)) g5
theorem Uv {left:Bool}{x:Keyed}{arr:Array Keyed}{base n hint:Nat}{st:SortSt}{Q:Option Nat→SortSt→Prop}(H:Wl prog w A E s κ a₀ key)(hk:kindOf st=κ)(hx:x∈a₀.toList)(ha:∀i (hi:i<arr.size),arr[i]∈a₀.toList)(hn:base+n≤arr.size)(hs:SegS key arr base (base+n))(hh:hint<n)
  (h:∀k,k≤n→(∀i,i<k→(if left then !T3.le (key x) (KS key arr (base+i)) else T3.le (KS key arr (base+i)) (key x))=true)→(∀i,k≤i→i<n→(if left then !T3.le (key x) (KS key arr (base+i)) else T3.le (KS key arr (base+i)) (key x))=false)→Q (some k) st) :
  wpS (model prog w) A E s (J4 left x arr base n hint) Q st:=by
 rw[Zia]
 show wpS _ _ _ _ (Zfm (fun i=>do
  let y ← elem' arr (base+i)
  if left then lt' y x else return (← lt' x y).map (!·)) n hint) Q st
 refine Zg5 (P:=fun i=>if left then !T3.le (key x) (KS key arr (base+i)) else T3.le (KS key arr (base+i)) (key x)) (fun i hi Q' hq=>?_) (fun i j hij hj hp=>?_) hh h
 ·have hi':base+i<arr.size:=by exact ln4 [(.le (.a .v0 .v3) .v2),(.lt .v1 .v3)] (.lt (.a .v0 .v1) .v2) (.d 1111) rfl hn hi
  refine wpS_bind (Yh hi' ?_)
  rw[Yq hi'] at hq
  cases left with
  | true=>
   simp only[if_true] at hq ⊢
   exact H _ _ (ha _ hi') hx st Q' hk hq
  | false=>
   simp only[Bool.false_eq_true,if_false] at hq ⊢
   refine wpS_bind (H _ _ hx (ha _ hi') st _ hk ?_)
   refine wpS_pure ?_
   simpa using hq
 ·have hle:=hs (base+i) (base+j) (by exact ln2 [] (.le .v0 (.a .v0 .v1)) (.d 11) rfl) (by exact ln3 [(.le .v1 .v2)] (.le (.a .v0 .v1) (.a .v0 .v2)) (.d 111) rfl hij) (by exact ln3 [(.lt .v1 .v2)] (.lt (.a .v0 .v1) (.a .v0 .v2)) (.d 111) rfl hj)
  cases left with
  | true=>
   simp only[if_true,Bool.not_eq_true'] at hp ⊢
   cases hq:T3.le (key x) (KS key arr (base+i)) with
   | false=>rfl
   | true=>rw[Z4 hq hle] at hp;cases hp
  | false=>
   simp only[Bool.false_eq_true,if_false] at hp ⊢
   exact Z4 hle hp
end
abbrev Zmm (st:SortSt)(g:Nat):SortSt:=SortSt.mk' (kindOf st) (arrOf st) (pendingOf st) g (failedOf st)
noncomputable def Zc8:Array Keyed→Array Keyed→StateT SortSt Sem (Array Keyed):=sortPriv% PySem.Builtin.mergeLo
noncomputable def Zc9:Array Keyed→Array Keyed→StateT SortSt Sem (Array Keyed):=sortPriv% PySem.Builtin.mergeHi
noncomputable def Y6:Nat→StateT SortSt Sem Unit:=sortPriv% PySem.Builtin.setMinGallop
theorem Jr (g:Nat):Y6 g=modify fun s=>Zmm s g:=rfl
theorem Zg6 (a b:Array Keyed):Zc8 a b=(do
 rule "list.sort.merge-lo"
 let total:=a.size+b.size
 let done (out:Array Keyed) (ia ib:Nat):=out++a.extract ia a.size++b.extract ib b.size
 let lastOfA (out:Array Keyed) (ia ib:Nat):=out++b.extract ib b.size++a.extract ia a.size
 let mut out:Array Keyed:=#[← elem' b 0]
 let mut ia:=0
 let mut ib:=1
 if ib == b.size then return done out ia ib
 if ia+1 == a.size then return lastOfA out ia ib
 let mut minGallop:=gallopOf (← get)
 for _ in [0:total] do
  let mut acount:=0
  let mut bcount:=0
  for _ in [0:total] do
   let some bWins ← lt' (← elem' b ib) (← elem' a ia) | return done out ia ib
   if bWins then
    out:=out.push (← elem' b ib);ib:=ib+1;bcount:=bcount+1;acount:=0
    if ib == b.size then return done out ia ib
    if bcount ≥ minGallop then break
   else
    out:=out.push (← elem' a ia);ia:=ia+1;acount:=acount+1;bcount:=0
    if ia+1 == a.size then return lastOfA out ia ib
    if acount ≥ minGallop then break
  rule "list.sort.gallop"
  minGallop:=minGallop+1
  for _ in [0:total] do
   if minGallop>1 then minGallop:=minGallop-1
   Y6 minGallop
   let some k ← J4 false (← elem' b ib) a ia (a.size-ia) 0 | return done out ia ib
   acount:=k
   if k>0 then
    out:=out++a.extract ia (ia+k);ia:=ia+k
    if ia+1 == a.size then return lastOfA out ia ib
    if ia == a.size then return done out ia ib
   out:=out.push (← elem' b ib);ib:=ib+1
   if ib == b.size then return done out ia ib
   let some k ← J4 true (← elem' a ia) b ib (b.size-ib) 0 | return done out ia ib
   bcount:=k
   if k>0 then
    out:=out++b.extract ib (ib+k);ib:=ib+k
    if ib == b.size then return done out ia ib
   out:=out.push (← elem' a ia);ia:=ia+1
   if ia+1 == a.size then return lastOfA out ia ib
   if acount<7&&bcount<7 then break
  minGallop:=minGallop+1
  Y6 minGallop
 unsupported "internal:list.sort.merge-bound") := rfl
noncomputable def Srt (key:Keyed→T3)(l:List Keyed):Prop:=l.Pairwise fun x y=>T3.le (key x) (key y)=true
noncomputable def Leq (key:Keyed→T3)(l r:List Keyed):Prop:=∀x∈l,∀y∈r,T3.le (key x) (key y)=true
section
variable {key:Keyed→T3}
theorem Srt.app {l r:List Keyed}(h1:Srt key l)(h2:Srt key r)(h:Leq key l r):Srt key (l++r):=List.pairwise_append.mpr ⟨h1,h2,h⟩
theorem Srt.cut {l r:List Keyed}(h:Srt key (l++r)):Srt key l∧Srt key r∧Leq key l r:=List.pairwise_append.mp h
structure MI (key:Keyed→T3)(T out ra rb:List Keyed):Prop where
 perm:(out++(ra++rb)).Perm T
 so:Srt key out
 sa:Srt key ra
 sb:Srt key rb
 la:Leq key out ra
 lb:Leq key out rb
theorem MI.takeA {T out u ra rb:List Keyed}(h:MI key T out (u++ra) rb)(hu:Leq key u rb):MI key T (out++u) ra rb:=by
 refine byC fun hX=>?_;obtain ⟨s1,s2,s3⟩:=h.sa.cut;refine hX ?_;clear hX
 refine ⟨by simpa[List.append_assoc] using h.perm,h.so.app s1 fun x hx y hy=>h.la x hx y (List.mem_append_left _ hy),s2,h.sb,fun x hx y hy=>?_,fun x hx y hy=>?_⟩
 ·rcases List.mem_append.mp hx with hx | hx
  ·exact h.la x hx y (List.mem_append_right _ hy)
  ·exact s3 x hx y hy
 ·rcases List.mem_append.mp hx with hx | hx
  ·exact h.lb x hx y hy
  ·exact hu x hx y hy
theorem MI.takeB {T out u ra rb:List Keyed}(h:MI key T out ra (u++rb))(hu:Leq key u ra):MI key T (out++u) ra rb:=by
 refine byC fun hX=>?_;obtain ⟨s1,s2,s3⟩:=h.sb.cut;refine hX ?_;clear hX
 refine ⟨List.Perm.trans ?_ h.perm,h.so.app s1 fun x hx y hy=>h.lb x hx y (List.mem_append_left _ hy),h.sa,s2,fun x hx y hy=>?_,fun x hx y hy=>?_⟩
 ·rw[List.append_assoc]
  exact List.Perm.append_left _ (by
   rw[← List.append_assoc,← List.append_assoc]
   exact List.Perm.append_right _ List.perm_append_comm)
 ·rcases List.mem_append.mp hx with hx | hx
  ·exact h.la x hx y hy
  ·exact hu x hx y hy
 ·rcases List.mem_append.mp hx with hx | hx
  ·exact h.lb x hx y (List.mem_append_right _ hy)
  ·exact s3 x hx y hy
theorem MI.endA {T out rb:List Keyed}(h:MI key T out [] rb):(out++rb).Perm T∧Srt key (out++rb):=⟨by simpa using h.perm,h.so.app h.sb h.lb⟩
theorem MI.endB {T out ra:List Keyed}(h:MI key T out ra []):(out++ra).Perm T∧Srt key (out++ra):=⟨by simpa using h.perm,h.so.app h.sa h.la⟩
theorem MI.last {T out ra rb:List Keyed}(h:MI key T out ra rb)(hu:Leq key rb ra):(out++rb++ra).Perm T∧Srt key (out++rb++ra):=by
 have h':=MI.takeB (u:=rb) (rb:=[]) (by simpa using h) hu
 exact h'.endB
theorem Zed {a:Array Keyed}{i:Nat}(hi:i<a.size):a.toList.drop i=a[i]::a.toList.drop (i+1):=by
 rw[List.drop_eq_getElem_cons (by simpa using hi)];simp
theorem Xb {a:Array Keyed}{i:Nat}{x:Keyed}(h:x∈a.toList.drop i):∃j,∃hj:j<a.size,i≤j∧x=a[j]:=by
 refine byC fun hX=>?_;obtain ⟨k,hk,rfl⟩:=List.getElem_of_mem h;refine hX ?_;clear hX
 rw[List.length_drop,Array.length_toList] at hk
 exact ⟨i+k,by lia,by lia,by simp⟩
theorem Zda (a:Array Keyed)(i k:Nat)(h:i+k≤a.size):a.toList.drop i=(a.extract i (i+k)).toList++a.toList.drop (i+k):=by
 rw[Array.toList_extract]
 simp only[List.extract_eq_drop_take]
 have:i+k-i=k:=by exact ln3 [(.sb .v0 (.a .v2 .v1) .v2)] (.eq .v0 .v1) (.s (.s (.d 11001) (.d 11101)) (.s (.d 1101) (.d 1101))) rfl (Zd _ _)
 rw[this,← List.drop_drop,List.take_append_drop]
theorem Ub (a:Array Keyed)(i:Nat):(a.extract i a.size).toList=a.toList.drop i:=by
 rw[Array.toList_extract]
 simp only[List.extract_eq_drop_take]
 rw[List.take_of_length_le (by simp)]
theorem Zb2 {a:Array Keyed}{i k:Nat}{x:Keyed}(h:x∈(a.extract i (i+k)).toList)(hk:i+k≤a.size):∃j,∃hj:j<a.size,i≤j∧j<i+k∧x=a[j]:=by
 refine byC fun hX=>?_;obtain ⟨m,hm,rfl⟩:=List.getElem_of_mem h;refine hX ?_;clear hX
 have hm':m<k:=by simp at hm;exact ln4 [(.lt .v0 .v2),(.mi .v2 .v1 .v3)] (.lt .v0 .v1) (.s (.d 11101) (.d 11111)) rfl hm (Yc _ _)
 exact ⟨i+m,by lia,by lia,by lia,by simp⟩
theorem srt_seg {a:Array Keyed}:SegS key a 0 a.size↔Srt key a.toList:=by
 unfold Srt
 rw[List.pairwise_iff_getElem]
 constructor
 ·intro h i j hi hj hij
  have hi':i<a.size:=by simpa using hi
  have hj':j<a.size:=by simpa using hj
  have:=h i j (Nat.zero_le _) (Nat.le_of_lt hij) hj'
  rw[Yq hi',Yq hj'] at this
  simpa using this
 ·intro h i j _ hij hj
  by_cases he:i=j
  ·subst he;exact Ui _
  ·have:=h i j (by simp;lia) (by simpa using hj) (by lia)
   rw[Yq (by lia),Yq hj]
   simpa using this
end
structure Same (st0 st:SortSt):Prop where
 kind:kindOf st=kindOf st0
 arr:arrOf st=arrOf st0
 pend:pendingOf st=pendingOf st0
 ok:failedOf st=failedOf st0
theorem Same.refl (st:SortSt):Same st st:=⟨rfl,rfl,rfl,rfl⟩
theorem Same.gal {st0 st:SortSt}(h:Same st0 st)(g:Nat):Same st0 (Zmm st g):=⟨h.kind,h.arr,h.pend,h.ok⟩
section
variable {prog:Program}{w:World}{A:Around}{E:Value→Shared→Prop}{s:Shared}{a₀:Array Keyed}{κ:SortKind}{key:Keyed→T3}
structure Two (a₀:Array Keyed)(key:Keyed→T3)(a b:Array Keyed):Prop where
 ina:∀i (hi:i<a.size),a[i]∈a₀.toList
 inb:∀i (hi:i<b.size),b[i]∈a₀.toList
 sa:Srt key a.toList
 sb:Srt key b.toList
 pa:1≤a.size
 pb:1≤b.size
 first:∀i (hi:i<a.size) (h0:0<b.size),T3.le (key b[0]) (key a[i])=true
 last:∀j (hj:j<b.size) (h0:a.size-1<a.size),T3.le (key b[j]) (key a[a.size-1])=true
noncomputable def Res (key:Keyed→T3)(a b r:Array Keyed):Prop:=r.toList.Perm (a.toList++b.toList)∧Srt key r.toList
structure Mid (key:Keyed→T3)(a b out:Array Keyed)(ia ib:Nat):Prop where
 mi:MI key (a.toList++b.toList) out.toList (a.toList.drop ia) (b.toList.drop ib)
 ha:ia+1<a.size
 hb:ib<b.size
variable {a b:Array Keyed}
theorem Qz {out:Array Keyed}{ia:Nat}(h:MI key (a.toList++b.toList) out.toList (a.toList.drop ia) (b.toList.drop b.size)):Res key a b (out++a.extract ia a.size++b.extract b.size b.size):=by
 rw[List.drop_of_length_le (l:=b.toList) (i:=b.size) (by simp)] at h
 have:=h.endB
 unfold Res
 rw[Array.toList_append,Array.toList_append,Ub,Ub,List.drop_of_length_le (i:=b.size) (by simp),List.append_nil]
 exact this
theorem Zk0 {out:Array Keyed}{ib:Nat}(h:MI key (a.toList++b.toList) out.toList (a.toList.drop a.size) (b.toList.drop ib)):Res key a b (out++a.extract a.size a.size++b.extract ib b.size):=by
 rw[List.drop_of_length_le (l:=a.toList) (i:=a.size) (by simp)] at h
 have:=h.endA
 unfold Res
 rw[Array.toList_append,Array.toList_append,Ub,Ub,List.drop_of_length_le (i:=a.size) (by simp),List.append_nil]
 exact this
theorem Za5 {out:Array Keyed}{ia ib:Nat}(T:Two a₀ key a b)(h:MI key (a.toList++b.toList) out.toList (a.toList.drop ia) (b.toList.drop ib))(hia:ia+1=a.size):Res key a b (out++b.extract ib b.size++a.extract ia a.size):=by
 unfold Res
 rw[Array.toList_append,Array.toList_append,Ub,Ub]
 refine h.last fun x hx y hy=>?_
 refine byC fun hX=>?_;obtain ⟨j,hj,_,rfl⟩:=Xb hx;refine hX ?_;clear hX
 refine byC fun hX=>?_;obtain ⟨i,hi,h1,rfl⟩:=Xb hy;refine hX ?_;clear hX
 have hii:i=a.size-1:=by lia
 subst hii
 exact T.last j hj hi
theorem Zb3 (out:Array Keyed)(x:Keyed):(out.push x).toList=out.toList++[x]:=Array.toList_push ..
theorem Zdb {out:Array Keyed}{ia ib:Nat}(h:MI key (a.toList++b.toList) out.toList (a.toList.drop ia) (b.toList.drop ib))(hb:ib<b.size)(hl:∀i (hi:i<a.size),ia≤i→T3.le (key b[ib]) (key a[i])=true) :
  MI key (a.toList++b.toList) (out.push b[ib]).toList (a.toList.drop ia) (b.toList.drop (ib+1)):=by
 rw[Zb3]
 rw[Zed hb] at h
 refine MI.takeB (u:=[b[ib]]) h fun x hx y hy=>?_
 rw[List.mem_singleton.mp hx]
 refine byC fun hX=>?_;obtain ⟨i,hi,h1,rfl⟩:=Xb hy;refine hX ?_;clear hX
 exact hl i hi h1
theorem Zg7 {out:Array Keyed}{ia ib:Nat}(h:MI key (a.toList++b.toList) out.toList (a.toList.drop ia) (b.toList.drop ib))(ha:ia<a.size)(hl:∀j (hj:j<b.size),ib≤j→T3.le (key a[ia]) (key b[j])=true) :
  MI key (a.toList++b.toList) (out.push a[ia]).toList (a.toList.drop (ia+1)) (b.toList.drop ib):=by
 rw[Zb3]
 rw[Zed ha] at h
 refine MI.takeA (u:=[a[ia]]) h fun x hx y hy=>?_
 rw[List.mem_singleton.mp hx]
 refine byC fun hX=>?_;obtain ⟨i,hi,h1,rfl⟩:=Xb hy;refine hX ?_;clear hX
 exact hl i hi h1
theorem Zpg {out:Array Keyed}{ia ib k:Nat}(h:MI key (a.toList++b.toList) out.toList (a.toList.drop ia) (b.toList.drop ib))(hk:ia+k≤a.size)(hl:∀i (hi:i<a.size),ia≤i→i<ia+k→∀j (hj:j<b.size),ib≤j→T3.le (key a[i]) (key b[j])=true) :
  MI key (a.toList++b.toList) (out++a.extract ia (ia+k)).toList (a.toList.drop (ia+k)) (b.toList.drop ib):=by
 rw[Array.toList_append]
 rw[Zda a ia k hk] at h
 refine MI.takeA h fun x hx y hy=>?_
 refine byC fun hX=>?_;obtain ⟨i,hi,h1,h2,rfl⟩:=Zb2 hx hk;refine hX ?_;clear hX
 refine byC fun hX=>?_;obtain ⟨j,hj,h3,rfl⟩:=Xb hy;refine hX ?_;clear hX
 exact hl i hi h1 h2 j hj h3
theorem Zph {out:Array Keyed}{ia ib k:Nat}(h:MI key (a.toList++b.toList) out.toList (a.toList.drop ia) (b.toList.drop ib))(hk:ib+k≤b.size)(hl:∀i (hi:i<b.size),ib≤i→i<ib+k→∀j (hj:j<a.size),ia≤j→T3.le (key b[i]) (key a[j])=true) :
  MI key (a.toList++b.toList) (out++b.extract ib (ib+k)).toList (a.toList.drop ia) (b.toList.drop (ib+k)):=by
 rw[Array.toList_append]
 rw[Zda b ib k hk] at h
 refine MI.takeB h fun x hx y hy=>?_
 refine byC fun hX=>?_;obtain ⟨i,hi,h1,h2,rfl⟩:=Zb2 hx hk;refine hX ?_;clear hX
 refine byC fun hX=>?_;obtain ⟨j,hj,h3,rfl⟩:=Xb hy;refine hX ?_;clear hX
 exact hl i hi h1 h2 j hj h3
theorem X2 {c:Array Keyed}(h:Srt key c.toList){i j:Nat}(hi:i<c.size)(hj:j<c.size)(hij:i≤j):T3.le (key c[i]) (key c[j])=true:=by
 have:=srt_seg.mpr h i j (Nat.zero_le _) hij hj
 rwa [Yq hi,Yq hj] at this
theorem Zce {c:Array Keyed}(h:Srt key c.toList){i n:Nat}(hn:i+n≤c.size):SegS key c i (i+n):=fun p q h1 h2 h3=>srt_seg.mpr h p q (Nat.zero_le _) h2 (by lia)
abbrev Zk1:=Option (Array Keyed)×Array Keyed×Nat×Nat×Nat×Nat×Nat
noncomputable def loB (a b:Array Keyed)(minGallop acount:Nat)(out:Array Keyed)(ia ib bcount:Nat):StateT SortSt Sem (ForInStep Zk1):=do
 let x ← elem' b ib
 let out:=out.push x
 let ib:=ib+1
 if (ib == b.size)=true then pure (.done (some (out++a.extract ia a.size++b.extract ib b.size),out,ia,ib,minGallop,acount,bcount))
 else do
  let y ← elem' a ia
  let z ← J4 true y b ib (b.size-ib) 0
  match z with
  | some k=>
   let jp:=fun (_:Unit) (out:Array Keyed) (ib:Nat)=>(do
    let y ← elem' a ia
    let out:=out.push y
    let ia:=ia+1
    if (ia+1 == a.size)=true then pure (.done (some (out++b.extract ib b.size++a.extract ia a.size),out,ia,ib,minGallop,acount,k))
    else if (decide (acount<7)&&decide (k<7))=true then pure (.done (none,out,ia,ib,minGallop,acount,k))
    else pure (.yield (none,out,ia,ib,minGallop,acount,k)):StateT SortSt Sem (ForInStep Zk1))
   if k>0 then
    let out:=out++b.extract ib (ib+k)
    let ib:=ib+k
    if (ib == b.size)=true then pure (.done (some (out++a.extract ia a.size++b.extract ib b.size),out,ia,ib,minGallop,acount,k))
    else jp () out ib
   else jp () out ib
  | _=>pure (.done (some (out++a.extract ia a.size++b.extract ib b.size),out,ia,ib,minGallop,acount,bcount))
noncomputable def loA (a b:Array Keyed)(out:Array Keyed)(ia ib acount bcount:Nat)(minGallop:Nat):StateT SortSt Sem (ForInStep Zk1):=do
 Y6 minGallop
 let x ← elem' b ib
 let z ← J4 false x a ia (a.size-ia) 0
 match z with
 | some k=>
  if k>0 then
   let out:=out++a.extract ia (ia+k)
   let ia:=ia+k
   if (ia+1 == a.size)=true then pure (.done (some (out++b.extract ib b.size++a.extract ia a.size),out,ia,ib,minGallop,k,bcount))
   else if (ia == a.size)=true then pure (.done (some (out++a.extract ia a.size++b.extract ib b.size),out,ia,ib,minGallop,k,bcount))
   else loB a b minGallop k out ia ib bcount
  else loB a b minGallop k out ia ib bcount
 | _=>pure (.done (some (out++a.extract ia a.size++b.extract ib b.size),out,ia,ib,minGallop,acount,bcount))
theorem Zjg {st st':SortSt}{N mg ac bc:Nat}{out:Array Keyed}{ia ib:Nat}{Q:ForInStep Zk1→SortSt→Prop}(H:Wl prog w A E s κ a₀ key)(hk:kindOf st=κ)(T:Two a₀ key a b)(hM:Mid key a b out ia ib)(hS:Same st st')
  (hl:∀i (hi:i<a.size),ia≤i→T3.le (key (b[ib]'hM.hb)) (key a[i])=true) (hp:N≤ia+ib)
  (h1:∀r rest,Res key a b r→Q (.done (some r,rest)) st') (h2:∀out ia ib mg ac bc,Mid key a b out ia ib→N≤ia+ib→Q (.done (none,out,ia,ib,mg,ac,bc)) st'∧Q (.yield (none,out,ia,ib,mg,ac,bc)) st') :
  wpS (model prog w) A E s (loB a b mg ac out ia ib bc) Q st':=by
 have ha:=hM.ha
 have hb:=hM.hb
 unfold loB
 refine wpS_bind (Yh hb ?_)
 have m1:=Zdb hM.mi hb hl
 by_cases he:ib+1=b.size
 ·refine Yj (by simpa using he) ?_
  refine wpS_pure (h1 _ _ ?_)
  rw[he] at m1 ⊢
  exact Qz m1
 ·refine Yk (by simpa using he) ?_
  refine wpS_bind (Yh (show ia<a.size by lia) (wpS_bind (Uv H (hS.kind.trans hk) (T.ina _ _) T.inb (by lia) (Zce T.sb (by lia)) (by lia) fun k hkn g1 g2=>?_)))
  simp only[if_true] at g1 g2
  have fin : ∀ (out : Array Keyed) (ib' : Nat), MI key (a.toList ++ b.toList) out.toList (a.toList.drop ia) (b.toList.drop ib') → ib' < b.size → ib + 1 + k = ib' → wpS (model prog w) A E s (do
    let y ← elem' a ia
    if (ia+1+1 == a.size)=true then pure (.done (some (out.push y++b.extract ib' b.size++a.extract (ia+1) a.size),out.push y,ia+1,ib',mg,ac,k))
    else if (decide (ac<7)&&decide (k<7))=true then pure (.done (none,out.push y,ia+1,ib',mg,ac,k))
    else pure (.yield (none,out.push y,ia+1,ib',mg,ac,k)):StateT SortSt Sem (ForInStep Zk1)) Q st':=by
   intro out ib' m2 hb' hib
   refine wpS_bind (Yh (show ia<a.size by lia) ?_)
   have m3:=Zg7 m2 (show ia<a.size by lia) fun j hj hj1=>by
    have:=g2 (j-(ib+1)) (by lia) (by lia)
    rw[show ib+1+(j-(ib+1))=j by lia,Yq hj] at this
    simpa using this
   by_cases he2:ia+1+1=a.size
   ·refine Yj (by simpa using he2) ?_
    exact wpS_pure (h1 _ _ (Za5 T m3 he2))
   ·refine Yk (by simpa using he2) ?_
    have hM':Mid key a b (out.push a[ia]) (ia+1) ib':=⟨m3,by lia,hb'⟩
    refine Qy (fun u_=>?_) (fun u_=>?_)
    ·exact wpS_pure (h2 _ _ _ _ _ _ hM' (by lia)).1
    ·exact wpS_pure (h2 _ _ _ _ _ _ hM' (by lia)).2
  by_cases hk0:k>0
  ·refine Yj hk0 ?_
   have m2:=Zph (k:=k) m1 (by lia) fun i hi hi1 hi2 j hj hj1=>by
    have:=g1 (i-(ib+1)) (by lia)
    rw[show ib+1+(i-(ib+1))=i by lia,Yq hi] at this
    have hle:=Yv (by simpa using this:T3.le (key a[ia]) (key b[i])=false)
    exact Z4 hle (X2 T.sa (by lia) hj hj1)
   by_cases he2:ib+1+k=b.size
   ·refine Yj (by simpa using he2) ?_
    refine wpS_pure (h1 _ _ ?_)
    rw[he2] at m2 ⊢
    exact Qz m2
   ·refine Yk (by simpa using he2) ?_
    exact fin _ _ m2 (by lia) rfl
  ·refine Yk hk0 ?_
   exact fin _ _ m1 (by lia) (by lia)
theorem Zpi {st st':SortSt}{N mg ac bc:Nat}{out:Array Keyed}{ia ib:Nat}{Q:ForInStep Zk1→SortSt→Prop}(H:Wl prog w A E s κ a₀ key)(hk:kindOf st=κ)(T:Two a₀ key a b)(hM:Mid key a b out ia ib)(hS:Same st st')(hp:N≤ia+ib)
  (h1:∀r rest st',Same st st'→Res key a b r→Q (.done (some r,rest)) st') (h2:∀out ia ib mg ac bc st',Same st st'→Mid key a b out ia ib→N≤ia+ib→Q (.done (none,out,ia,ib,mg,ac,bc)) st'∧Q (.yield (none,out,ia,ib,mg,ac,bc)) st') :
  wpS (model prog w) A E s (loA a b out ia ib ac bc mg) Q st':=by
 have ha:=hM.ha
 have hb:=hM.hb
 unfold loA
 rw[Jr]
 refine wpS_bind (wpS_modify ?_)
 have hS':=hS.gal mg
 refine wpS_bind (Yh hb (wpS_bind (Uv H (hS'.kind.trans hk) (T.inb _ _) T.ina (by lia) (Zce T.sa (by lia)) (by lia) fun k hkn g1 g2=>?_)))
 simp only[Bool.false_eq_true,if_false] at g1 g2
 have hg2:∀i (hi:i<a.size),ia+k≤i→T3.le (key b[ib]) (key a[i])=true:=fun i hi hi1=>by
  have:=g2 (i-ia) (by lia) (by lia)
  rw[show ia+(i-ia)=i by lia,Yq hi] at this
  exact Yv this
 by_cases hk0:k>0
 ·refine Yj hk0 ?_
  have m2:=Zpg (k:=k) hM.mi (by lia) fun i hi hi1 hi2 j hj hj1=>by
   have:=g1 (i-ia) (by lia)
   rw[show ia+(i-ia)=i by lia,Yq hi] at this
   exact Z4 this (X2 T.sb hb hj hj1)
  by_cases he:ia+k+1=a.size
  ·refine Yj (by simpa using he) ?_
   exact wpS_pure (h1 _ _ _ hS' (Za5 T m2 he))
  ·refine Yk (by simpa using he) ?_
   by_cases he2:ia+k=a.size
   ·refine Yj (by simpa using he2) ?_
    refine wpS_pure (h1 _ _ _ hS' ?_)
    rw[he2] at m2 ⊢
    exact Zk0 m2
   ·refine Yk (by simpa using he2) ?_
    exact Zjg H hk T ⟨m2,by lia,hb⟩ hS' hg2 (by lia) (fun r rest hR=>h1 r rest _ hS' hR) fun out ia ib mg ac bc hM' hp'=>h2 out ia ib mg ac bc _ hS' hM' hp'
 ·refine Yk hk0 ?_
  exact Zjg H hk T hM hS' (fun i hi hi1=>hg2 i hi (by lia)) hp (fun r rest hR=>h1 r rest _ hS' hR) fun out ia ib mg ac bc hM' hp'=>h2 out ia ib mg ac bc _ hS' hM' hp'
theorem Zg8 {st:SortSt}{Q:Array Keyed→SortSt→Prop}(H:Wl prog w A E s κ a₀ key)(hk:kindOf st=κ)(T:Two a₀ key a b)(h:∀r st',Same st st'→Res key a b r→Q r st'):wpS (model prog w) A E s (Zc8 a b) Q st:=by
 rw[Zg6]
 have pa:=T.pa
 have pb:=T.pb
 refine wpS_bind (wpS_lift (wpAny_rule ⟨rfl,?_⟩))
 refine wpS_bind (Yh (by lia) ?_)
 have m0:MI key (a.toList++b.toList) #[b[0]].toList (a.toList.drop 0) (b.toList.drop 1):=by
  have:MI key (a.toList++b.toList) (#[]:Array Keyed).toList (a.toList.drop 0) (b.toList.drop 0):=⟨by simp,List.Pairwise.nil,by simpa using T.sa,by simpa using T.sb,fun x hx=>by simp at hx,fun x hx=>by simp at hx⟩
  exact Zdb this (by lia) fun i hi u_=>T.first i hi (by lia)
 by_cases h1:1=b.size
 ·refine Yj (by simpa using h1) ?_
  refine wpS_pure (h _ st (Same.refl _) ?_)
  have:=Qz (ia:=0) (h1▸m0)
  rw[h1];exact this
 ·refine Yk (by simpa using h1) ?_
  by_cases h2:0+1=a.size
  ·refine Yj (by simpa using h2) ?_
   exact wpS_pure (h _ st (Same.refl _) (Za5 T m0 h2))
  ·refine Yk (by simpa using h2) ?_
   refine wpS_bind (wpS_get ?_)
   refine wpS_bind (wpS_mono (wpS_forRange (I:=fun x c st'=>Same st st'∧∃out ia ib mg,c=(none,out,ia,ib,mg)∧Mid key a b out ia ib∧x+1≤ia+ib)
    (Q:=fun c st'=>Same st st'∧∃r rest,c=(some r,rest)∧Res key a b r) ?step ?fin ⟨Same.refl _,#[b[0]],0,1,_,rfl,⟨m0,by lia,by lia⟩,by lia⟩) ?post)
   case post=>
    intro c st' hX2
    refine byC fun hnX=>?_
    obtain ⟨hS,r,rest,rfl,hR⟩:=hX2
    refine hnX ?_
    clear hnX
    exact wpS_pure (h r st' hS hR)
   case fin=>
    intro c st' hX2
    refine byC fun hnX=>?_
    obtain ⟨hS,out,ia,ib,mg,rfl,hM,hp⟩:=hX2
    refine hnX ?_
    clear hnX
    have:=hM.ha;have:=hM.hb
    lia
   case step=>
    intro x c st' _ hx hX5
    refine byC fun hnX=>?_
    obtain ⟨hS,out,ia,ib,mg,rfl,hM,hp⟩:=hX5
    refine hnX ?_
    clear hnX
    refine wpS_bind (wpS_mono (wpS_forRange (I:=fun y c st'=>Same st st'∧∃out ia' ib' ac bc,c=(none,out,ia',ib',ac,bc)∧Mid key a b out ia' ib'∧ia+ib+y≤ia'+ib')
     (Q:=fun c st'=>Same st st'∧((∃r rest,c=(some r,rest)∧Res key a b r)∨∃out ia' ib' ac bc,c=(none,out,ia',ib',ac,bc)∧Mid key a b out ia' ib'∧ia+ib+1≤ia'+ib')) ?step1 ?fin1 ⟨hS,out,ia,ib,0,0,rfl,hM,by lia⟩) ?post1)
    case fin1=>
     intro c st' hX2
     refine byC fun hnX=>?_
     obtain ⟨hS,out,ia',ib',ac,bc,rfl,hM,hp⟩:=hX2
     refine hnX ?_
     clear hnX
     exact ⟨hS,.inr ⟨out,ia',ib',ac,bc,rfl,hM,by lia⟩⟩
    case step1=>
     intro y c st' _ hy hX5
     refine byC fun hnX=>?_
     obtain ⟨hS,out,ia',ib',ac,bc,rfl,hM,hp⟩:=hX5
     refine hnX ?_
     clear hnX
     have ha:=hM.ha
     have hb:=hM.hb
     refine wpS_bind (Yh hb (wpS_bind (Yh (show ia'<a.size by lia) (wpS_bind (H _ _ (T.inb _ hb) (T.ina _ _) st' _ (hS.kind.trans hk) ?_)))))
     cases hl:T3.le (key a[ia']) (key b[ib']) with
     | false=>
      refine Yj rfl ?_
      refine wpS_bind (Yh hb ?_)
      have m1:=Zdb hM.mi hb fun i hi h1=>Z4 (Yv hl) (X2 T.sa (by lia) hi h1)
      by_cases he:ib'+1=b.size
      ·refine Yj (by simpa using he) ?_
       refine wpS_pure ⟨hS,.inl ⟨_,_,rfl,?_⟩⟩
       rw[he] at m1 ⊢
       exact Qz m1
      ·refine Yk (by simpa using he) ?_
       have hM':Mid key a b (out.push b[ib']) ia' (ib'+1):=⟨m1,ha,by lia⟩
       refine Qy (fun u_=>?_) (fun u_=>?_)
       ·exact wpS_pure ⟨hS,.inr ⟨_,_,_,_,_,rfl,hM',by lia⟩⟩
       ·exact wpS_pure ⟨hS,_,_,_,_,_,rfl,hM',by lia⟩
     | true=>
      refine Yk (fun h=>Bool.noConfusion h) ?_
      refine wpS_bind (Yh (show ia'<a.size by lia) ?_)
      have m1:=Zg7 hM.mi (show ia'<a.size by lia) fun j hj h1=>Z4 hl (X2 T.sb hb hj h1)
      by_cases he:ia'+1+1=a.size
      ·refine Yj (by simpa using he) ?_
       exact wpS_pure ⟨hS,.inl ⟨_,_,rfl,Za5 T m1 he⟩⟩
      ·refine Yk (by simpa using he) ?_
       have hM':Mid key a b (out.push a[ia']) (ia'+1) ib':=⟨m1,by lia,hb⟩
       refine Qy (fun u_=>?_) (fun u_=>?_)
       ·exact wpS_pure ⟨hS,.inr ⟨_,_,_,_,_,rfl,hM',by lia⟩⟩
       ·exact wpS_pure ⟨hS,_,_,_,_,_,rfl,hM',by lia⟩
    case post1=>
     intro c st' hX2
     refine byC fun hnX=>?_
     obtain ⟨hS,hor⟩:=hX2
     refine hnX ?_
     clear hnX
     rcases hor with ⟨r,rest,rfl,hR⟩ | ⟨out,ia',ib',ac,bc,rfl,hM,hp1⟩
     ·exact wpS_pure ⟨hS,r,_,rfl,hR⟩
     ·skip
      refine wpS_bind (wpS_lift (wpAny_rule ⟨rfl,?_⟩))
      refine wpS_bind (wpS_mono (wpS_forRange (I:=fun y c st'=>Same st st'∧∃out ia' ib' mg ac bc,c=(none,out,ia',ib',mg,ac,bc)∧Mid key a b out ia' ib'∧ia+ib+1≤ia'+ib')
       (Q:=fun c st'=>Same st st'∧((∃r rest,c=(some r,rest)∧Res key a b r)∨∃out ia' ib' mg ac bc,c=(none,out,ia',ib',mg,ac,bc)∧Mid key a b out ia' ib'∧ia+ib+1≤ia'+ib')) ?step2 ?fin2 ⟨hS,out,ia',ib',_,ac,bc,rfl,hM,hp1⟩) ?post2)
      case fin2=>
       intro c st' hX2
       refine byC fun hnX=>?_
       obtain ⟨hS,out,ia',ib',mg,ac,bc,rfl,hM,hp⟩:=hX2
       refine hnX ?_
       clear hnX
       exact ⟨hS,.inr ⟨out,ia',ib',mg,ac,bc,rfl,hM,hp⟩⟩
      case post2=>
       intro c st' hX2
       refine byC fun hnX=>?_
       obtain ⟨hS,hor⟩:=hX2
       refine hnX ?_
       clear hnX
       rcases hor with ⟨r,rest,rfl,hR⟩ | ⟨out,ia',ib',mg,ac,bc,rfl,hM,hp1⟩
       ·exact wpS_pure ⟨hS,r,_,rfl,hR⟩
       ·dsimp only
        rw[Jr]
        exact wpS_bind (wpS_modify (wpS_pure ⟨hS.gal _,out,ia',ib',_,rfl,hM,by lia⟩))
      case step2=>
       clear hM hp1 hS out ia' ib' ac bc
       intro y c st' _ hy hX5
       refine byC fun hnX=>?_
       obtain ⟨hS,out,ia',ib',mg,ac,bc,rfl,hM,hp⟩:=hX5
       refine hnX ?_
       clear hnX
       have fin : ∀ mg', wpS (model prog w) A E s (loA a b out ia' ib' ac bc mg') (fun r st' => match r with
         | .done c'=>Same st st'∧((∃r rest,c'=(some r,rest)∧Res key a b r)∨∃out ia' ib' mg ac bc,c'=(none,out,ia',ib',mg,ac,bc)∧Mid key a b out ia' ib'∧ia+ib+1≤ia'+ib')
         | .yield c'=>Same st st'∧∃out ia' ib' mg ac bc,c'=(none,out,ia',ib',mg,ac,bc)∧Mid key a b out ia' ib'∧ia+ib+1≤ia'+ib') st':=fun mg'=>
        Zpi H hk T hM hS hp (fun r rest st2 hS2 hR=>⟨hS2,.inl ⟨r,rest,rfl,hR⟩⟩) fun out ia ib mg ac bc st2 hS2 hM2 hp2=>⟨⟨hS2,.inr ⟨_,_,_,_,_,_,rfl,hM2,hp2⟩⟩,hS2,_,_,_,_,_,_,rfl,hM2,hp2⟩
       by_cases hg:mg>1
       ·refine Yj hg ?_;exact wpS_mono (fin (mg-1)) fun r st2 hq=>by cases r <;> exact hq
       ·refine Yk hg ?_;exact wpS_mono (fin mg) fun r st2 hq=>by cases r <;> exact hq
end
theorem Zg9 (a b:Array Keyed):Zc9 a b=(do
 rule "list.sort.merge-hi"
 let total:=a.size+b.size
 let done (out:Array Keyed) (na nb:Nat):=a.extract 0 na++b.extract 0 nb++out.reverse
 let firstOfB (out:Array Keyed) (na nb:Nat):=b.extract 0 nb++a.extract 0 na++out.reverse
 let mut na:=a.size-1
 let mut nb:=b.size
 let mut out:Array Keyed:=#[← elem' a na]
 if na == 0 then return done out na nb
 if nb == 1 then return firstOfB out na nb
 let mut minGallop:=gallopOf (← get)
 for _ in [0:total] do
  let mut acount:=0
  let mut bcount:=0
  for _ in [0:total] do
   let some aWins ← lt' (← elem' b (nb-1)) (← elem' a (na-1)) | return done out na nb
   if aWins then
    na:=na-1;out:=out.push (← elem' a na);acount:=acount+1;bcount:=0
    if na == 0 then return done out na nb
    if acount ≥ minGallop then break
   else
    nb:=nb-1;out:=out.push (← elem' b nb);bcount:=bcount+1;acount:=0
    if nb == 1 then return firstOfB out na nb
    if bcount ≥ minGallop then break
  rule "list.sort.gallop"
  minGallop:=minGallop+1
  for _ in [0:total] do
   if minGallop>1 then minGallop:=minGallop-1
   Y6 minGallop
   let some at_ ← J4 false (← elem' b (nb-1)) a 0 na (na-1) | return done out na nb
   let k:=na-at_
   acount:=k
   if k>0 then
    out:=out++(a.extract at_ na).reverse;na:=at_
    if na == 0 then return done out na nb
   nb:=nb-1;out:=out.push (← elem' b nb)
   if nb == 1 then return firstOfB out na nb
   let some at_ ← J4 true (← elem' a (na-1)) b 0 nb (nb-1) | return done out na nb
   let k:=nb-at_
   bcount:=k
   if k>0 then
    out:=out++(b.extract at_ nb).reverse;nb:=at_
    if nb == 1 then return firstOfB out na nb
    if nb == 0 then return done out na nb
   na:=na-1;out:=out.push (← elem' a na)
   if na == 0 then return done out na nb
   if acount<7&&bcount<7 then break
  minGallop:=minGallop+1
  Y6 minGallop
 unsupported "internal:list.sort.merge-bound") := rfl
section
variable {key:Keyed→T3}
structure MJ (key:Keyed→T3)(T o ra rb:List Keyed):Prop where
 perm:(ra++rb++o).Perm T
 so:Srt key o
 sa:Srt key ra
 sb:Srt key rb
 la:Leq key ra o
 lb:Leq key rb o
theorem MJ.takeA {T o u ra rb:List Keyed}(h:MJ key T o (ra++u) rb)(hu:Leq key rb u):MJ key T (u++o) ra rb:=by
 refine byC fun hX=>?_;obtain ⟨s1,s2,s3⟩:=h.sa.cut;refine hX ?_;clear hX
 refine ⟨List.Perm.trans ?_ h.perm,s2.app h.so fun x hx y hy=>h.la x (List.mem_append_right _ hx) y hy,s1,h.sb,fun x hx y hy=>?_,fun x hx y hy=>?_⟩
 ·rw[show ra++rb++(u++o)=ra++(rb++u)++o by simp only[List.append_assoc],show ra++u++rb++o=ra++(u++rb)++o by simp only[List.append_assoc]]
  exact List.Perm.append_right _ (List.Perm.append_left _ List.perm_append_comm)
 ·rcases List.mem_append.mp hy with hy | hy
  ·exact s3 x hx y hy
  ·exact h.la x (List.mem_append_left _ hx) y hy
 ·rcases List.mem_append.mp hy with hy | hy
  ·exact hu x hx y hy
  ·exact h.lb x hx y hy
theorem MJ.takeB {T o u ra rb:List Keyed}(h:MJ key T o ra (rb++u))(hu:Leq key ra u):MJ key T (u++o) ra rb:=by
 refine byC fun hX=>?_;obtain ⟨s1,s2,s3⟩:=h.sb.cut;refine hX ?_;clear hX
 refine ⟨by simpa[List.append_assoc] using h.perm,s2.app h.so fun x hx y hy=>h.lb x (List.mem_append_right _ hx) y hy,h.sa,s1,fun x hx y hy=>?_,fun x hx y hy=>?_⟩
 ·rcases List.mem_append.mp hy with hy | hy
  ·exact hu x hx y hy
  ·exact h.la x hx y hy
 ·rcases List.mem_append.mp hy with hy | hy
  ·exact s3 x hx y hy
  ·exact h.lb x (List.mem_append_left _ hx) y hy
theorem MJ.endA {T o rb:List Keyed}(h:MJ key T o [] rb):(rb++o).Perm T∧Srt key (rb++o):=⟨by simpa using h.perm,h.sb.app h.so h.lb⟩
theorem MJ.endB {T o ra:List Keyed}(h:MJ key T o ra []):(ra++o).Perm T∧Srt key (ra++o):=⟨by simpa using h.perm,h.sa.app h.so h.la⟩
theorem MJ.first {T o ra rb:List Keyed}(h:MJ key T o ra rb)(hu:Leq key rb ra):(rb++ra++o).Perm T∧Srt key (rb++ra++o):=by
 have h':=MJ.takeA (u:=ra) (ra:=[]) (by simpa using h) hu
 have:=h'.endA
 rw[List.append_assoc];exact this
theorem Xc {a:Array Keyed}{n:Nat}{x:Keyed}(h:x∈a.toList.take n):∃j,∃hj:j<a.size,j<n∧x=a[j]:=by
 refine byC fun hX=>?_;obtain ⟨k,hk,rfl⟩:=List.getElem_of_mem h;refine hX ?_;clear hX
 rw[List.length_take,Array.length_toList] at hk
 exact ⟨k,by lia,by lia,by simp⟩
theorem Zee {a:Array Keyed}{n:Nat}(hn:1≤n)(h:n-1<a.size):a.toList.take n=a.toList.take (n-1)++[a[n-1]]:=by
 have e:n=n-1+1:=by exact ln2 [(.le .k1 .v0),(.sb .v1 .v0 .k1)] (.eq .v0 (.a .v1 .k1)) (.s (.s (.d 11001) (.d 11101)) (.s (.d 110001) (.d 110101))) rfl hn (Zd _ _)
 conv=>lhs;rw[e]
 rw[List.take_add_one,List.getElem?_eq_getElem (by simpa using h)]
 simp
theorem Zan (a:Array Keyed)(i n:Nat)(h:i≤n):a.toList.take n=a.toList.take i++(a.extract i n).toList:=by
 rw[Array.toList_extract]
 simp only[List.extract_eq_drop_take]
 conv=>lhs;rw[show n=i+(n-i) by exact ln3 [(.le .v1 .v0),(.sb .v2 .v0 .v1)] (.eq .v0 (.a .v1 .v2)) (.s (.s (.d 11001) (.d 11101)) (.s (.d 110001) (.d 110101))) rfl h (Zd _ _)]
 exact List.take_add
theorem Js (a:Array Keyed)(n:Nat):(a.extract 0 n).toList=a.toList.take n:=by
 rw[Array.toList_extract]
 simp only[List.extract_eq_drop_take,Nat.sub_zero,List.drop_zero]
theorem Zfn {a:Array Keyed}{i n:Nat}{x:Keyed}(h:x∈(a.extract i n).toList)(hn:n≤a.size):∃j,∃hj:j<a.size,i≤j∧j<n∧x=a[j]:=by
 refine byC fun hX=>?_;obtain ⟨m,hm,rfl⟩:=List.getElem_of_mem h;refine hX ?_;clear hX
 have hm':m<n-i:=by simp at hm;exact ln4 [(.lt .v0 .v2),(.mi .v2 .v1 .v3)] (.lt .v0 .v1) (.s (.d 11101) (.d 11111)) rfl hm (Yc _ _)
 exact ⟨i+m,by lia,by lia,by lia,by simp⟩
end
section
variable {prog:Program}{w:World}{A:Around}{E:Value→Shared→Prop}{s:Shared}{a₀:Array Keyed}{κ:SortKind}{key:Keyed→T3}{a b:Array Keyed}
abbrev MJa (key:Keyed→T3)(a b out:Array Keyed)(na nb:Nat):Prop:=MJ key (a.toList++b.toList) out.reverse.toList (a.toList.take na) (b.toList.take nb)
structure Mih (key:Keyed→T3)(a b out:Array Keyed)(na nb:Nat):Prop where
 mi:MJa key a b out na nb
 ha:1≤na
 hb:2≤nb
 ha':na≤a.size
 hb':nb≤b.size
theorem Za6 {out:Array Keyed}{na nb:Nat}(h:MJa key a b out na nb)(e:na=0):Res key a b (a.extract 0 na++b.extract 0 nb++out.reverse):=by
 subst e
 have:=MJ.endA (show MJ key _ _ [] _ from h)
 unfold Res
 rw[Array.toList_append,Array.toList_append,Js,Js]
 exact this
theorem Zmn {out:Array Keyed}{na nb:Nat}(h:MJa key a b out na nb)(e:nb=0):Res key a b (a.extract 0 na++b.extract 0 nb++out.reverse):=by
 subst e
 have:=MJ.endB (show MJ key _ _ _ [] from h)
 unfold Res
 rw[Array.toList_append,Array.toList_append,Js,Js]
 simpa using this
theorem Za7 {out:Array Keyed}{na nb:Nat}(T:Two a₀ key a b)(h:MJa key a b out na nb)(e:nb=1):Res key a b (b.extract 0 nb++a.extract 0 na++out.reverse):=by
 subst e
 unfold Res
 rw[Array.toList_append,Array.toList_append,Js,Js]
 refine h.first fun x hx y hy=>?_
 refine byC fun hX=>?_;obtain ⟨j,hj,h1,rfl⟩:=Xc hx;refine hX ?_;clear hX
 refine byC fun hX=>?_;obtain ⟨i,hi,_,rfl⟩:=Xc hy;refine hX ?_;clear hX
 have:j=0:=by exact ln1 [(.lt .v0 .k1)] (.eq .v0 .k0) (.s (.d 11) (.d 111)) rfl h1
 subst this
 exact T.first i hi hj
theorem Zha (out:Array Keyed)(x:Keyed):(out.push x).reverse.toList=x::out.reverse.toList:=by simp
theorem Zjh (out u:Array Keyed):(out++u.reverse).reverse.toList=u.toList++out.reverse.toList:=by simp
theorem Zdc {out:Array Keyed}{na nb:Nat}(h:MJa key a b out na nb)(hn:1≤na)(ha:na-1<a.size)(hl:∀j (hj:j<b.size),j<nb→T3.le (key b[j]) (key a[na-1])=true):MJa key a b (out.push a[na-1]) (na-1) nb:=by
 unfold MJa
 rw[Zha]
 unfold MJa at h
 rw[Zee hn ha] at h
 refine MJ.takeA (u:=[a[na-1]]) h fun x hx y hy=>?_
 rw[List.mem_singleton.mp hy]
 refine byC fun hX=>?_;obtain ⟨j,hj,h1,rfl⟩:=Xc hx;refine hX ?_;clear hX
 exact hl j hj h1
theorem Zhb {out:Array Keyed}{na nb:Nat}(h:MJa key a b out na nb)(hn:1≤nb)(hb:nb-1<b.size)(hl:∀j (hj:j<a.size),j<na→T3.le (key a[j]) (key b[nb-1])=true):MJa key a b (out.push b[nb-1]) na (nb-1):=by
 unfold MJa
 rw[Zha]
 unfold MJa at h
 rw[Zee hn hb] at h
 refine MJ.takeB (u:=[b[nb-1]]) h fun x hx y hy=>?_
 rw[List.mem_singleton.mp hy]
 refine byC fun hX=>?_;obtain ⟨j,hj,h1,rfl⟩:=Xc hx;refine hX ?_;clear hX
 exact hl j hj h1
theorem Zpj {out:Array Keyed}{na nb m:Nat}(h:MJa key a b out na nb)(hm:m≤na)(ha:na≤a.size)(hl:∀j (hj:j<b.size),j<nb→∀i (hi:i<a.size),m≤i→i<na→T3.le (key b[j]) (key a[i])=true):MJa key a b (out++(a.extract m na).reverse) m nb:=by
 unfold MJa
 rw[Zjh]
 unfold MJa at h
 rw[Zan a m na hm] at h
 refine MJ.takeA h fun x hx y hy=>?_
 refine byC fun hX=>?_;obtain ⟨j,hj,h1,rfl⟩:=Xc hx;refine hX ?_;clear hX
 refine byC fun hX=>?_;obtain ⟨i,hi,h2,h3,rfl⟩:=Zfn hy ha;refine hX ?_;clear hX
 exact hl j hj h1 i hi h2 h3
theorem Zpk {out:Array Keyed}{na nb m:Nat}(h:MJa key a b out na nb)(hm:m≤nb)(hb:nb≤b.size)(hl:∀j (hj:j<a.size),j<na→∀i (hi:i<b.size),m≤i→i<nb→T3.le (key a[j]) (key b[i])=true):MJa key a b (out++(b.extract m nb).reverse) na m:=by
 unfold MJa
 rw[Zjh]
 unfold MJa at h
 rw[Zan b m nb hm] at h
 refine MJ.takeB h fun x hx y hy=>?_
 refine byC fun hX=>?_;obtain ⟨j,hj,h1,rfl⟩:=Xc hx;refine hX ?_;clear hX
 refine byC fun hX=>?_;obtain ⟨i,hi,h2,h3,rfl⟩:=Zfn hy hb;refine hX ?_;clear hX
 exact hl j hj h1 i hi h2 h3
abbrev Zk2:=Option (Array Keyed)×Nat×Nat×Array Keyed×Nat×Nat×Nat
noncomputable def hiB (a b:Array Keyed)(minGallop acount:Nat)(out:Array Keyed)(na nb bcount:Nat):StateT SortSt Sem (ForInStep Zk2):=do
 let nb:=nb-1
 let x ← elem' b nb
 let out:=out.push x
 if (nb == 1)=true then pure (.done (some (b.extract 0 nb++a.extract 0 na++out.reverse),na,nb,out,minGallop,acount,bcount))
 else do
  let y ← elem' a (na-1)
  let z ← J4 true y b 0 nb (nb-1)
  match z with
  | some at_=>
   let k:=nb-at_
   let jp:=fun (_:Unit) (nb:Nat) (out:Array Keyed)=>(do
    let na:=na-1
    let y ← elem' a na
    let out:=out.push y
    if (na == 0)=true then pure (.done (some (a.extract 0 na++b.extract 0 nb++out.reverse),na,nb,out,minGallop,acount,k))
    else if (decide (acount<7)&&decide (k<7))=true then pure (.done (none,na,nb,out,minGallop,acount,k))
    else pure (.yield (none,na,nb,out,minGallop,acount,k)):StateT SortSt Sem (ForInStep Zk2))
   if k>0 then
    let out:=out++(b.extract at_ nb).reverse
    let nb:=at_
    if (nb == 1)=true then pure (.done (some (b.extract 0 nb++a.extract 0 na++out.reverse),na,nb,out,minGallop,acount,k))
    else if (nb == 0)=true then pure (.done (some (a.extract 0 na++b.extract 0 nb++out.reverse),na,nb,out,minGallop,acount,k))
    else jp () nb out
   else jp () nb out
  | _=>pure (.done (some (a.extract 0 na++b.extract 0 nb++out.reverse),na,nb,out,minGallop,acount,bcount))
noncomputable def hiA (a b:Array Keyed)(na nb:Nat)(out:Array Keyed)(acount bcount minGallop:Nat):StateT SortSt Sem (ForInStep Zk2):=do
 Y6 minGallop
 let x ← elem' b (nb-1)
 let z ← J4 false x a 0 na (na-1)
 match z with
 | some at_=>
  let k:=na-at_
  if k>0 then
   let out:=out++(a.extract at_ na).reverse
   let na:=at_
   if (na == 0)=true then pure (.done (some (a.extract 0 na++b.extract 0 nb++out.reverse),na,nb,out,minGallop,k,bcount))
   else hiB a b minGallop k out na nb bcount
  else hiB a b minGallop k out na nb bcount
 | _=>pure (.done (some (a.extract 0 na++b.extract 0 nb++out.reverse),na,nb,out,minGallop,acount,bcount))
theorem Zji {st st':SortSt}{N mg ac bc:Nat}{out:Array Keyed}{na nb:Nat}{Q:ForInStep Zk2→SortSt→Prop}(H:Wl prog w A E s κ a₀ key)(hk:kindOf st=κ)(T:Two a₀ key a b)(hM:Mih key a b out na nb)(hS:Same st st')
  (hl:∀j (hj:j<a.size) (hb:nb-1<b.size),j<na→T3.le (key a[j]) (key b[nb-1])=true) (hp:na+nb≤N)
  (h1:∀r rest,Res key a b r→Q (.done (some r,rest)) st') (h2:∀out na nb mg ac bc,Mih key a b out na nb→na+nb≤N→Q (.done (none,na,nb,out,mg,ac,bc)) st'∧Q (.yield (none,na,nb,out,mg,ac,bc)) st') :
  wpS (model prog w) A E s (hiB a b mg ac out na nb bc) Q st':=by
 refine byC fun hX=>?_;obtain ⟨hmi,ha,hb,ha',hb'⟩:=hM;refine hX ?_;clear hX
 unfold hiB
 refine wpS_bind (Yh (show nb-1<b.size by exact ln3 [(.le (.k 2) .v2),(.le .v2 .v1),(.sb .v0 .v2 .k1)] (.lt .v0 .v1) (.s (.d 110101) (.d 10101)) rfl hb hb' (Zd _ _)) ?_)
 have m1:=Zhb hmi (by exact ln1 [(.le (.k 2) .v0)] (.le .k1 .v0) (.d 111) rfl hb) (show nb-1<b.size by exact ln3 [(.le (.k 2) .v2),(.le .v2 .v1),(.sb .v0 .v2 .k1)] (.lt .v0 .v1) (.s (.d 110101) (.d 10101)) rfl hb hb' (Zd _ _)) fun j hj h=>hl j hj (by exact ln3 [(.le (.k 2) .v2),(.le .v2 .v1),(.sb .v0 .v2 .k1)] (.lt .v0 .v1) (.s (.d 110101) (.d 10101)) rfl hb hb' (Zd _ _)) h
 by_cases he:nb-1=1
 ·refine Yj (by simpa using he) ?_
  refine wpS_pure (h1 _ _ ?_)
  exact Za7 T m1 he
 ·refine Yk (by simpa using he) ?_
  refine wpS_bind (Yh (show na-1<a.size by exact ln3 [(.le .k1 .v2),(.le .v2 .v1),(.sb .v0 .v2 .k1)] (.lt .v0 .v1) (.s (.d 110101) (.d 111101)) rfl ha ha' (Zd _ _)) (wpS_bind (Uv H (hS.kind.trans hk) (T.ina _ _) T.inb (by exact ln3 [(.le .v2 .v1),(.sb .v0 .v2 .k1)] (.le (.a .k0 .v0) .v1) (.s (.d 11101) (.d 11101)) rfl hb' (Zd _ _)) (Zce T.sb (by exact ln3 [(.le .v2 .v1),(.sb .v0 .v2 .k1)] (.le (.a .k0 .v0) .v1) (.s (.d 11101) (.d 11101)) rfl hb' (Zd _ _))) (by exact ln3 [(.le (.k 2) .v2),(.sb .v0 .v1 .k1),(.sb .v1 .v2 .k1)] (.lt .v0 .v1) (.s (.s (.d 11001) (.d 11001)) (.s (.d 111010001) (.d 1010001))) rfl hb (Zd _ _) (Zd _ _)) fun m hmn g1 g2=>?_)))
  simp only[if_true,Nat.zero_add] at g1 g2
  have fin : ∀ (out : Array Keyed) (nb' : Nat), MJa key a b out na nb' → 2 ≤ nb' → nb' = m → nb' ≤ nb - 1 → wpS (model prog w) A E s (do
    let y ← elem' a (na-1)
    if (na-1 == 0)=true then pure (.done (some (a.extract 0 (na-1)++b.extract 0 nb'++(out.push y).reverse),na-1,nb',out.push y,mg,ac,nb-1-m))
    else if (decide (ac<7)&&decide (nb-1-m<7))=true then pure (.done (none,na-1,nb',out.push y,mg,ac,nb-1-m))
    else pure (.yield (none,na-1,nb',out.push y,mg,ac,nb-1-m)):StateT SortSt Sem (ForInStep Zk2)) Q st':=by
   intro out nb' m2 hb2 hnb hle
   refine wpS_bind (Yh (show na-1<a.size by exact ln3 [(.le .k1 .v2),(.le .v2 .v1),(.sb .v0 .v2 .k1)] (.lt .v0 .v1) (.s (.d 110101) (.d 111101)) rfl ha ha' (Zd _ _)) ?_)
   have m3:=Zdc m2 ha (show na-1<a.size by exact ln3 [(.le .k1 .v2),(.le .v2 .v1),(.sb .v0 .v2 .k1)] (.lt .v0 .v1) (.s (.d 110101) (.d 111101)) rfl ha ha' (Zd _ _)) fun j hj hj1=>by
    have:=g1 j (by exact ln3 [(.eq .v2 .v1),(.lt .v0 .v2)] (.lt .v0 .v1) (.d 11101) rfl hnb hj1)
    rw[Yq hj] at this
    exact Yv (by simpa using this)
   by_cases he2:na-1=0
   ·refine Yj (by simpa using he2) ?_
    refine wpS_pure (h1 _ _ ?_)
    exact Za6 m3 he2
   ·refine Yk (by simpa using he2) ?_
    have hM':Mih key a b (out.push a[na-1]) (na-1) nb':=⟨m3,by exact ln1 [(.no (.eq .v0 .k0))] (.le .k1 .v0) (.s (.d 101) (.d 111)) rfl he2,hb2,by exact ln3 [(.le .v2 .v1),(.sb .v0 .v2 .k1)] (.le .v0 .v1) (.s (.d 11101) (.d 11101)) rfl ha' (Zd _ _),by exact ln5 [(.le .v2 .v1),(.le .v3 .v4),(.eq .v0 .v3),(.sb .v4 .v2 .k1)] (.le .v0 .v1) (.s (.d 11111001) (.d 11011001)) rfl hb' hmn hnb (Zd _ _)⟩
    refine Qy (fun u_=>?_) (fun u_=>?_)
    ·exact wpS_pure (h2 _ _ _ _ _ _ hM' (by exact ln7 [(.le (.a .v3 .v4) .v2),(.le .v5 .v6),(.eq .v1 .v5),(.sb .v6 .v4 .k1),(.sb .v0 .v3 .k1)] (.le (.a .v0 .v1) .v2) (.s (.s (.d 11111001001) (.d 11111001001)) (.s (.d 11111001001) (.d 11011001001))) rfl hp hmn hnb (Zd _ _) (Zd _ _))).1
    ·exact wpS_pure (h2 _ _ _ _ _ _ hM' (by exact ln7 [(.le (.a .v3 .v4) .v2),(.le .v5 .v6),(.eq .v1 .v5),(.sb .v6 .v4 .k1),(.sb .v0 .v3 .k1)] (.le (.a .v0 .v1) .v2) (.s (.s (.d 11111001001) (.d 11111001001)) (.s (.d 11111001001) (.d 11011001001))) rfl hp hmn hnb (Zd _ _) (Zd _ _))).2
  by_cases hk0:nb-1-m>0
  ·refine Yj hk0 ?_
   have m2:=Zpk (m:=m) m1 (by exact ln2 [(.le .v0 .v1)] (.le .v0 .v1) (.d 111) rfl hmn) (by exact ln3 [(.le .v2 .v1),(.sb .v0 .v2 .k1)] (.le .v0 .v1) (.s (.d 11101) (.d 11101)) rfl hb' (Zd _ _)) fun j hj hj1 i hi hi1 hi2=>by
    have:=g2 i hi1 hi2
    rw[Yq hi] at this
    exact Z4 (X2 T.sa hj (show na-1<a.size by exact ln3 [(.le .k1 .v2),(.le .v2 .v1),(.sb .v0 .v2 .k1)] (.lt .v0 .v1) (.s (.d 110101) (.d 111101)) rfl ha ha' (Zd _ _)) (by exact ln3 [(.lt .v0 .v2),(.sb .v1 .v2 .k1)] (.le .v0 .v1) (.s (.d 111001) (.d 111101)) rfl hj1 (Zd _ _))) (by simpa using this)
   by_cases he2:m=1
   ·refine Yj (by simpa using he2) ?_
    refine wpS_pure (h1 _ _ ?_)
    exact Za7 T m2 he2
   ·refine Yk (by simpa using he2) ?_
    by_cases he3:m=0
    ·refine Yj (by simpa using he3) ?_
     refine wpS_pure (h1 _ _ ?_)
     exact Zmn m2 he3
    ·refine Yk (by simpa using he3) ?_
     exact fin _ _ m2 (by exact ln1 [(.no (.eq .v0 .k1)),(.no (.eq .v0 .k0))] (.le (.k 2) .v0) (.s (.s (.d 1001) (.d 1011)) (.s (.d 111) (.d 111))) rfl he2 he3) rfl (by exact ln2 [(.le .v0 .v1)] (.le .v0 .v1) (.d 111) rfl hmn)
  ·refine Yk hk0 ?_
   exact fin _ _ m1 (by exact ln2 [(.le (.k 2) .v1),(.no (.eq .v0 .k1)),(.sb .v0 .v1 .k1)] (.le (.k 2) .v0) (.s (.s (.d 1011001) (.d 10101)) (.s (.d 1101) (.d 1101))) rfl hb he (Zd _ _)) (by exact ln3 [(.le .v1 .v0),(.no (.lt .k0 .v2)),(.sb .v2 .v0 .v1)] (.eq .v0 .v1) (.s (.s (.d 111) (.d 111)) (.s (.d 1101001) (.d 11001))) rfl hmn hk0 (Zd _ _)) (by exact ln1 [] (.le .v0 .v0) (.d 11) rfl)
theorem Zpl {st st':SortSt}{N mg ac bc:Nat}{out:Array Keyed}{na nb:Nat}{Q:ForInStep Zk2→SortSt→Prop}(H:Wl prog w A E s κ a₀ key)(hk:kindOf st=κ)(T:Two a₀ key a b)(hM:Mih key a b out na nb)(hS:Same st st')(hp:na+nb≤N)
  (h1:∀r rest st',Same st st'→Res key a b r→Q (.done (some r,rest)) st') (h2:∀out na nb mg ac bc st',Same st st'→Mih key a b out na nb→na+nb≤N→Q (.done (none,na,nb,out,mg,ac,bc)) st'∧Q (.yield (none,na,nb,out,mg,ac,bc)) st') :
  wpS (model prog w) A E s (hiA a b na nb out ac bc mg) Q st':=by
 have hM0:=hM
 refine byC fun hX=>?_;obtain ⟨hmi,ha,hb,ha',hb'⟩:=hM;refine hX ?_;clear hX
 unfold hiA
 rw[Jr]
 refine wpS_bind (wpS_modify ?_)
 have hS':=hS.gal mg
 refine wpS_bind (Yh (show nb-1<b.size by exact ln3 [(.le (.k 2) .v2),(.le .v2 .v1),(.sb .v0 .v2 .k1)] (.lt .v0 .v1) (.s (.d 110101) (.d 10101)) rfl hb hb' (Zd _ _)) (wpS_bind (Uv H (hS'.kind.trans hk) (T.inb _ _) T.ina (by exact ln2 [(.le .v0 .v1)] (.le (.a .k0 .v0) .v1) (.d 111) rfl ha') (Zce T.sa (by exact ln2 [(.le .v0 .v1)] (.le (.a .k0 .v0) .v1) (.d 111) rfl ha')) (by exact ln2 [(.le .k1 .v1),(.sb .v0 .v1 .k1)] (.lt .v0 .v1) (.s (.d 11001) (.d 11101)) rfl ha (Zd _ _)) fun m hmn g1 g2=>?_)))
 simp only[Bool.false_eq_true,if_false,Nat.zero_add] at g1 g2
 have hg1:∀j (hj:j<a.size) (hb:nb-1<b.size),j<m→T3.le (key a[j]) (key b[nb-1])=true:=fun j hj u_ hj1=>by
  have:=g1 j hj1
  rwa [Yq hj] at this
 by_cases hk0:na-m>0
 ·refine Yj hk0 ?_
  have m2:=Zpj (m:=m) hmi (by exact ln2 [(.le .v0 .v1)] (.le .v0 .v1) (.d 111) rfl hmn) ha' fun j hj hj1 i hi hi1 hi2=>by
   have:=g2 i hi1 hi2
   rw[Yq hi] at this
   exact Z4 (X2 T.sb hj (show nb-1<b.size by exact ln3 [(.le (.k 2) .v2),(.le .v2 .v1),(.sb .v0 .v2 .k1)] (.lt .v0 .v1) (.s (.d 110101) (.d 10101)) rfl hb hb' (Zd _ _)) (by exact ln3 [(.lt .v0 .v2),(.sb .v1 .v2 .k1)] (.le .v0 .v1) (.s (.d 111001) (.d 111101)) rfl hj1 (Zd _ _))) (Yv this)
  by_cases he:m=0
  ·refine Yj (by simpa using he) ?_
   refine wpS_pure (h1 _ _ _ hS' ?_)
   exact Za6 m2 he
  ·refine Yk (by simpa using he) ?_
   exact Zji H hk T ⟨m2,by exact ln1 [(.no (.eq .v0 .k0))] (.le .k1 .v0) (.s (.d 101) (.d 111)) rfl he,hb,by exact ln3 [(.le .v2 .v1),(.le .v0 .v2)] (.le .v0 .v1) (.d 1111) rfl ha' hmn,hb'⟩ hS' hg1 (by exact ln4 [(.le (.a .v3 .v1) .v2),(.le .v0 .v3)] (.le (.a .v0 .v1) .v2) (.d 1111) rfl hp hmn) (fun r rest hR=>h1 r rest _ hS' hR) fun out na nb mg ac bc hM' hp'=>h2 out na nb mg ac bc _ hS' hM' hp'
 ·refine Yk hk0 ?_
  exact Zji H hk T hM0 hS' (fun j hj hb hj1=>hg1 j hj hb (by exact ln4 [(.no (.lt .k0 .v2)),(.lt .v0 .v3),(.sb .v2 .v3 .v1)] (.lt .v0 .v1) (.s (.d 1111001) (.d 11011)) rfl hk0 hj1 (Zd _ _))) hp (fun r rest hR=>h1 r rest _ hS' hR) fun out na nb mg ac bc hM' hp'=>h2 out na nb mg ac bc _ hS' hM' hp'
set_option tactic.hygienic true in
theorem Zhc {st:SortSt}{Q:Array Keyed→SortSt→Prop}(H:Wl prog w A E s κ a₀ key)(hk:kindOf st=κ)(T:Two a₀ key a b)(h:∀r st',Same st st'→Res key a b r→Q r st'):wpS (model prog w) A E s (Zc9 a b) Q st:=by
 rw[Zg9]
 have pa:=T.pa
 have pb:=T.pb
 refine wpS_bind (wpS_lift (wpAny_rule ⟨rfl,?_⟩))
 refine wpS_bind (Yh (show a.size-1<a.size by exact ln2 [(.le .k1 .v1),(.sb .v0 .v1 .k1)] (.lt .v0 .v1) (.s (.d 11001) (.d 11101)) rfl pa (Zd _ _)) ?_)
 have m0:MJa key a b #[a[a.size-1]] (a.size-1) b.size:=by
  have:MJa key a b #[] a.size b.size:=by
   unfold MJa
   rw[List.take_of_length_le (l:=a.toList) (by simp),List.take_of_length_le (l:=b.toList) (by simp)]
   exact ⟨by simp,List.Pairwise.nil,T.sa,T.sb,fun x hx y hy=>by simp at hy,fun x hx y hy=>by simp at hy⟩
  exact Zdc this pa (by exact ln2 [(.le .k1 .v1),(.sb .v0 .v1 .k1)] (.lt .v0 .v1) (.s (.d 11001) (.d 11101)) rfl pa (Zd _ _)) fun j hj u_=>T.last j hj (by exact ln2 [(.le .k1 .v1),(.sb .v0 .v1 .k1)] (.lt .v0 .v1) (.s (.d 11001) (.d 11101)) rfl pa (Zd _ _))
 by_cases h1:a.size-1=0
 ·refine Yj (by simpa using h1) ?_
  refine wpS_pure (h _ st (Same.refl _) ?_)
  exact Za6 m0 h1
 ·refine Yk (by simpa using h1) ?_
  by_cases h2:b.size=1
  ·refine Yj (by simpa using h2) ?_
   refine wpS_pure (h _ st (Same.refl _) ?_)
   exact Za7 T m0 h2
  ·refine Yk (by simpa using h2) ?_
   refine wpS_bind (wpS_get ?_)
   refine wpS_bind (wpS_mono (wpS_forRange (I:=fun x c st'=>Same st st'∧∃na nb out mg,c=(none,na,nb,out,mg)∧Mih key a b out na nb∧x+na+nb<a.size+b.size)
    (Q:=fun c st'=>Same st st'∧∃r rest,c=(some r,rest)∧Res key a b r) ?step ?fin ⟨Same.refl _,a.size-1,b.size,#[a[a.size-1]],_,rfl,⟨m0,by exact ln1 [(.no (.eq .v0 .k0))] (.le .k1 .v0) (.s (.d 101) (.d 111)) rfl h1,by exact ln1 [(.le .k1 .v0),(.no (.eq .v0 .k1))] (.le (.k 2) .v0) (.s (.d 1011) (.d 1101)) rfl pb h2,by exact ln2 [(.sb .v0 .v1 .k1)] (.le .v0 .v1) (.s (.d 1101) (.d 1101)) rfl (Zd _ _),by exact ln1 [] (.le .v0 .v0) (.d 11) rfl⟩,by exact ln3 [(.le .k1 .v2),(.sb .v0 .v2 .k1)] (.lt (.a (.a .k0 .v0) .v1) (.a .v2 .v1)) (.s (.d 11001) (.d 11101)) rfl pa (Zd _ _)⟩) ?post)
   case post=>
    intro c st' hX2
    refine byC fun hnX=>?_
    obtain ⟨hS,r,rest,rfl,hR⟩:=hX2
    refine hnX ?_
    clear hnX
    exact wpS_pure (h r st' hS hR)
   case fin=>
    intro c st' hX2
    refine byC fun hnX=>?_
    obtain ⟨hS,na,nb,out,mg,rfl,hM,hp⟩:=hX2
    refine hnX ?_
    clear hnX
    lia
   case step=>
    intro x c st' _ hx hX5
    refine byC fun hnX=>?_
    obtain ⟨hS,na,nb,out,mg,rfl,hM,hp⟩:=hX5
    refine hnX ?_
    clear hnX
    refine wpS_bind (wpS_mono (wpS_forRange (I:=fun y c st'=>Same st st'∧∃na' nb' out ac bc,c=(none,na',nb',out,ac,bc)∧Mih key a b out na' nb'∧na'+nb'+y≤na+nb)
     (Q:=fun c st'=>Same st st'∧((∃r rest,c=(some r,rest)∧Res key a b r)∨∃na' nb' out ac bc,c=(none,na',nb',out,ac,bc)∧Mih key a b out na' nb'∧na'+nb'+1≤na+nb)) ?step1 ?fin1 ⟨hS,na,nb,out,0,0,rfl,hM,by exact ln2 [] (.le (.a (.a .v0 .v1) .k0) (.a .v0 .v1)) (.d 11) rfl⟩) ?post1)
    case fin1=>
     intro c st' hX2
     refine byC fun hnX=>?_
     obtain ⟨hS,na',nb',out,ac,bc,rfl,hM,hp⟩:=hX2
     refine hnX ?_
     clear hnX
     exact ⟨hS,.inr ⟨na',nb',out,ac,bc,rfl,hM,by exact ln7 [(.le .k1 .v4),(.le (.a (.a .v0 .v1) .v5) (.a .v2 .v3)),(.mx .v5 .k0 (.a .v6 .v4))] (.le (.a (.a .v0 .v1) .k1) (.a .v2 .v3)) (.s (.d 1111001) (.d 10101)) rfl pb hp (Qg _ _)⟩⟩
    case step1=>
     clear hM
     intro y c st' _ hy hX5
     refine byC fun hnX=>?_
     obtain ⟨hS,na',nb',out,ac,bc,rfl,hM,hp⟩:=hX5
     refine hnX ?_
     clear hnX
     refine byC fun hX=>?_;obtain ⟨hmi,ha,hb,ha',hb'⟩:=hM;refine hX ?_;clear hX
     have la:na'-1<a.size:=by exact ln3 [(.le .k1 .v1),(.le .v2 .v1),(.sb .v0 .v2 .k1)] (.lt .v0 .v1) (.s (.d 110101) (.d 111001)) rfl pa ha' (Zd _ _)
     have lb:nb'-1<b.size:=by exact ln3 [(.le (.k 2) .v2),(.le .v2 .v1),(.sb .v0 .v2 .k1)] (.lt .v0 .v1) (.s (.d 110101) (.d 10101)) rfl hb hb' (Zd _ _)
     refine wpS_bind (Yh lb (wpS_bind (Yh la (wpS_bind (H _ _ (T.inb _ lb) (T.ina _ la) st' _ (hS.kind.trans hk) ?_)))))
     cases hl:T3.le (key a[na'-1]) (key b[nb'-1]) with
     | false=>
      refine Yj rfl ?_
      refine wpS_bind (Yh la ?_)
      have m1:=Zdc hmi ha la fun j hj hj1=>Z4 (X2 T.sb hj lb (by exact ln3 [(.lt .v0 .v2),(.sb .v1 .v2 .k1)] (.le .v0 .v1) (.s (.d 111001) (.d 111101)) rfl hj1 (Zd _ _))) (Yv hl)
      by_cases he:na'-1=0
      ·refine Yj (by simpa using he) ?_
       refine wpS_pure ⟨hS,.inl ⟨_,_,rfl,?_⟩⟩
       exact Za6 m1 he
      ·refine Yk (by simpa using he) ?_
       have hM':Mih key a b (out.push a[na'-1]) (na'-1) nb':=⟨m1,by exact ln1 [(.no (.eq .v0 .k0))] (.le .k1 .v0) (.s (.d 101) (.d 111)) rfl he,hb,by exact ln2 [(.lt .v0 .v1)] (.le .v0 .v1) (.d 111) rfl la,hb'⟩
       refine Qy (fun u_=>?_) (fun u_=>?_)
       ·exact wpS_pure ⟨hS,.inr ⟨_,_,_,_,_,rfl,hM',by exact ln6 [(.le (.a (.a .v4 .v1) .v5) (.a .v2 .v3)),(.le .k1 .v4),(.sb .v0 .v4 .k1)] (.le (.a (.a .v0 .v1) .k1) (.a .v2 .v3)) (.s (.d 111001) (.d 111101)) rfl hp ha (Zd _ _)⟩⟩
       ·exact wpS_pure ⟨hS,_,_,_,_,_,rfl,hM',by exact ln6 [(.le (.a (.a .v5 .v1) .v2) (.a .v3 .v4)),(.le .k1 .v5),(.sb .v0 .v5 .k1)] (.le (.a (.a .v0 .v1) (.a .v2 .k1)) (.a .v3 .v4)) (.s (.d 111001) (.d 111101)) rfl hp ha (Zd _ _)⟩
     | true=>
      refine Yk (fun h=>Bool.noConfusion h) ?_
      refine wpS_bind (Yh lb ?_)
      have m1:=Zhb hmi (by exact ln1 [(.le (.k 2) .v0)] (.le .k1 .v0) (.d 111) rfl hb) lb fun j hj hj1=>Z4 (X2 T.sa hj la (by exact ln3 [(.lt .v0 .v2),(.sb .v1 .v2 .k1)] (.le .v0 .v1) (.s (.d 111001) (.d 111101)) rfl hj1 (Zd _ _))) hl
      by_cases he:nb'-1=1
      ·refine Yj (by simpa using he) ?_
       refine wpS_pure ⟨hS,.inl ⟨_,_,rfl,?_⟩⟩
       exact Za7 T m1 he
      ·refine Yk (by simpa using he) ?_
       have hM':Mih key a b (out.push b[nb'-1]) na' (nb'-1):=⟨m1,ha,by exact ln2 [(.le (.k 2) .v1),(.no (.eq .v0 .k1)),(.sb .v0 .v1 .k1)] (.le (.k 2) .v0) (.s (.s (.d 1011001) (.d 10101)) (.s (.d 1101) (.d 1101))) rfl hb he (Zd _ _),ha',by exact ln2 [(.lt .v0 .v1)] (.le .v0 .v1) (.d 111) rfl lb⟩
       refine Qy (fun u_=>?_) (fun u_=>?_)
       ·exact wpS_pure ⟨hS,.inr ⟨_,_,_,_,_,rfl,hM',by exact ln6 [(.le (.a (.a .v0 .v4) .v5) (.a .v2 .v3)),(.le (.k 2) .v4),(.sb .v1 .v4 .k1)] (.le (.a (.a .v0 .v1) .k1) (.a .v2 .v3)) (.s (.d 111001) (.d 10011)) rfl hp hb (Zd _ _)⟩⟩
       ·exact wpS_pure ⟨hS,_,_,_,_,_,rfl,hM',by exact ln6 [(.le (.a (.a .v0 .v5) .v2) (.a .v3 .v4)),(.le (.k 2) .v5),(.sb .v1 .v5 .k1)] (.le (.a (.a .v0 .v1) (.a .v2 .k1)) (.a .v3 .v4)) (.s (.d 111001) (.d 10011)) rfl hp hb (Zd _ _)⟩
    case post1=>
     intro c st' hX2
     refine byC fun hnX=>?_
     obtain ⟨hS,hor⟩:=hX2
     refine hnX ?_
     clear hnX
     rcases hor with ⟨r,rest,rfl,hR⟩ | ⟨na',nb',out,ac,bc,rfl,hM,hp1⟩
     ·exact wpS_pure ⟨hS,r,_,rfl,hR⟩
     ·skip
      refine wpS_bind (wpS_lift (wpAny_rule ⟨rfl,?_⟩))
      refine wpS_bind (wpS_mono (wpS_forRange (I:=fun y c st'=>Same st st'∧∃na' nb' out mg ac bc,c=(none,na',nb',out,mg,ac,bc)∧Mih key a b out na' nb'∧na'+nb'≤na+nb-1)
       (Q:=fun c st'=>Same st st'∧((∃r rest,c=(some r,rest)∧Res key a b r)∨∃na' nb' out mg ac bc,c=(none,na',nb',out,mg,ac,bc)∧Mih key a b out na' nb'∧na'+nb'≤na+nb-1)) ?step2 ?fin2 ⟨hS,na',nb',out,_,ac,bc,rfl,hM,by exact ln5 [(.le (.a (.a .v0 .v1) .k1) (.a .v3 .v4)),(.sb .v2 (.a .v3 .v4) .k1)] (.le (.a .v0 .v1) .v2) (.s (.d 111001) (.d 111101)) rfl hp1 (Zd _ _)⟩) ?post2)
      case fin2=>
       intro c st' hX2
       refine byC fun hnX=>?_
       obtain ⟨hS,na',nb',out,mg,ac,bc,rfl,hM,hp⟩:=hX2
       refine hnX ?_
       clear hnX
       exact ⟨hS,.inr ⟨na',nb',out,mg,ac,bc,rfl,hM,hp⟩⟩
      case post2=>
       intro c st' hX2
       refine byC fun hnX=>?_
       obtain ⟨hS,hor⟩:=hX2
       refine hnX ?_
       clear hnX
       rcases hor with ⟨r,rest,rfl,hR⟩ | ⟨na',nb',out,mg,ac,bc,rfl,hM,hp1⟩
       ·exact wpS_pure ⟨hS,r,_,rfl,hR⟩
       ·dsimp only
        rw[Jr]
        exact wpS_bind (wpS_modify (wpS_pure ⟨hS.gal _,na',nb',out,_,rfl,hM,by exact lin [(.lt (.a (.a .v0 .v5) .v6) (.a .v3 .v4)),(.le (.a .v1 .v2) .v7),(.sb .v7 (.a .v5 .v6) .k1),(.le (.a (.a .v8 .v9) .k1) (.a .v5 .v6))] (.lt (.a (.a (.a .v0 .k1) .v1) .v2) (.a .v3 .v4)) (.s (.d 111101) (.d 11110101)) rfl [_,_,_,_,_,_,_,_,_,_] [] hp hp1 (Zd _ _) ‹_›⟩))
      case step2=>
       clear hM hp1 hS out na' nb' ac bc
       intro y c st' _ hy hX5
       refine byC fun hnX=>?_
       obtain ⟨hS,na',nb',out,mg,ac,bc,rfl,hM,hp⟩:=hX5
       refine hnX ?_
       clear hnX
       have fin : ∀ mg', wpS (model prog w) A E s (hiA a b na' nb' out ac bc mg') (fun r st' => match r with
         | .done c'=>Same st st'∧((∃r rest,c'=(some r,rest)∧Res key a b r)∨∃na' nb' out mg ac bc,c'=(none,na',nb',out,mg,ac,bc)∧Mih key a b out na' nb'∧na'+nb'≤na+nb-1)
         | .yield c'=>Same st st'∧∃na' nb' out mg ac bc,c'=(none,na',nb',out,mg,ac,bc)∧Mih key a b out na' nb'∧na'+nb'≤na+nb-1) st':=fun mg'=>
        Zpl H hk T hM hS hp (fun r rest st2 hS2 hR=>⟨hS2,.inl ⟨r,rest,rfl,hR⟩⟩) fun out na nb mg ac bc st2 hS2 hM2 hp2=>⟨⟨hS2,.inr ⟨_,_,_,_,_,_,rfl,hM2,hp2⟩⟩,hS2,_,_,_,_,_,_,rfl,hM2,hp2⟩
       by_cases hg:mg>1
       ·refine Yj hg ?_;exact wpS_mono (fin (mg-1)) fun r st2 hq=>by cases r <;> exact hq
       ·refine Yk hg ?_;exact wpS_mono (fin mg) fun r st2 hq=>by cases r <;> exact hq
end
theorem Zhd (i:Nat):mergeAt' i=(do
 let s ← get
 let (some (sa, na, power), some (sb, nb, _)) := ((pendingOf s)[i]?, (pendingOf s)[i + 1]?) | unsupported "internal:list.sort.pending"
 set (SortSt.mk' (kindOf s) (arrOf s) (((pendingOf s).setIfInBounds i (sa,na+nb,power)).eraseIdxIfInBounds (i+1)) (gallopOf s) (failedOf s))
 let some k ← J4 false (← elem' (arrOf s) sb) (arrOf s) sa na 0 | return false
 let (sa,na):=(sa+k,na-k)
 if na == 0 then return true
 let some nb ← J4 true (← elem' (arrOf s) (sa+na-1)) (arrOf s) sb nb (nb-1) | return false
 if nb == 0 then return true
 let x:=(arrOf s).extract sa sb
 let y:=(arrOf s).extract sb (sb+nb)
 let merged ← if na≤nb then Zc8 x y else Zc9 x y
 modify fun s=>setArr s (merged.toList.zipIdx.foldl (fun a (p,j)=>a.setIfInBounds (sa+j) p) (arrOf s))
 return (failedOf (← get)).isNone):=rfl
noncomputable def Zdd (xs:Array Keyed)(off:Nat)(l:List (Keyed×Nat)):Array Keyed:=l.foldl (fun a p=>a.setIfInBounds (off+p.2) p.1) xs
theorem Za8 (off:Nat):∀(r:List Keyed) (n:Nat) (xs:Array Keyed),off+n+r.length≤xs.size→∀k:Nat,
  (Zdd xs off (r.zipIdx n))[k]?=if off+n≤k∧k<off+n+r.length then r[k-(off+n)]? else xs[k]?
 | [],n,xs,_,k=>by rw[if_neg (by simp)];rfl
 | x::r,n,xs,h,k=>by
  rw[List.zipIdx_cons]
  show (Zdd (xs.setIfInBounds (off+n) x) off (r.zipIdx (n+1)))[k]?=_
  simp only[List.length_cons] at h ⊢
  rw[Za8 off r (n+1) _ (by simp;exact ln4 [(.le (.a (.a .v0 .v1) (.a .v2 .k1)) .v3)] (.le (.a (.a .v0 (.a .v1 .k1)) .v2) .v3) (.d 111) rfl h)]
  by_cases h1:k=off+n
  ·subst h1
   rw[if_neg (by exact ln3 [] (.no (.an (.le (.a .v0 (.a .v1 .k1)) (.a .v0 .v1)) (.lt (.a .v0 .v1) (.a (.a .v0 (.a .v1 .k1)) .v2)))) (.d 11) rfl),if_pos (by exact ln3 [] (.an (.le (.a .v0 .v1) (.a .v0 .v1)) (.lt (.a .v0 .v1) (.a (.a .v0 .v1) (.a .v2 .k1)))) (.s (.d 11) (.d 11)) rfl)]
   simp[show off+n<xs.size by exact ln4 [(.le (.a (.a .v0 .v1) (.a .v3 .k1)) .v2)] (.lt (.a .v0 .v1) .v2) (.d 111) rfl h]
  ·by_cases h2:off+(n+1)≤k∧k<off+(n+1)+r.length
   ·rw[if_pos h2,if_pos (by exact ln4 [(.an (.le (.a .v0 (.a .v1 .k1)) .v2) (.lt .v2 (.a (.a .v0 (.a .v1 .k1)) .v3)))] (.an (.le (.a .v0 .v1) .v2) (.lt .v2 (.a (.a .v0 .v1) (.a .v3 .k1)))) (.s (.d 111) (.d 1101)) rfl h2)]
    rw[show k-(off+n)=k-(off+(n+1))+1 by exact ln6 [(.an (.le (.a .v2 (.a .v3 .k1)) .v4) (.lt .v4 (.a (.a .v2 (.a .v3 .k1)) .v5))),(.sb .v1 .v4 (.a .v2 (.a .v3 .k1))),(.sb .v0 .v4 (.a .v2 .v3))] (.eq .v0 (.a .v1 .k1)) (.s (.s (.s (.d 1100010001) (.d 10100001)) (.s (.d 1110010001) (.d 10100001))) (.s (.s (.d 110000101) (.d 10100001)) (.s (.d 110010101) (.d 10100001)))) rfl h2 (Zd _ _) (Zd _ _)];simp
   ·rw[if_neg h2,if_neg (by exact ln4 [(.no (.eq .v2 (.a .v0 .v1))),(.no (.an (.le (.a .v0 (.a .v1 .k1)) .v2) (.lt .v2 (.a (.a .v0 (.a .v1 .k1)) .v3))))] (.no (.an (.le (.a .v0 .v1) .v2) (.lt .v2 (.a (.a .v0 .v1) (.a .v3 .k1))))) (.s (.s (.d 1101) (.d 1101)) (.s (.d 10011) (.d 10101))) rfl h1 h2)]
    rw[Array.getElem?_setIfInBounds,if_neg (by exact ln3 [(.no (.eq .v2 (.a .v0 .v1)))] (.no (.eq (.a .v0 .v1) .v2)) (.s (.d 1101) (.d 1011)) rfl h1)]
theorem Zk3 {xs r:Array Keyed}{off e:Nat}(he:off≤e)(hs:e≤xs.size)(hp:r.toList.Perm (xs.extract off e).toList):(Zdd xs off (r.toList.zipIdx)).Perm xs:=by
 have hl:r.toList.length=e-off:=by rw[hp.length_eq];simp;exact ln6 [(.le .v2 .v3),(.mi .v0 .v1 .v4),(.sb .v4 .v3 .v5),(.sb .v1 .v2 .v5)] (.eq .v0 .v1) (.s (.s (.s (.s (.d 110001) (.d 110001)) (.s (.d 110001) (.d 110001))) (.s (.s (.d 11100100101) (.d 11000110101)) (.s (.d 11100110101) (.d 11000100101)))) (.s (.s (.s (.d 11001) (.d 11001)) (.s (.d 11001) (.d 11001))) (.s (.s (.d 11011) (.d 11011)) (.s (.d 11011) (.d 11011))))) rfl hs (Yc _ _) (Zd _ _) (Zd _ _)
 have key:(Zdd xs off (r.toList.zipIdx)).toList=xs.toList.take off++r.toList++xs.toList.drop e:=by
  apply List.ext_getElem?
  intro k
  rw[Array.getElem?_toList,Za8 off r.toList 0 xs (by exact ln5 [(.le .v0 .v3),(.le .v3 .v2),(.eq .v1 .v4),(.sb .v4 .v3 .v0)] (.le (.a (.a .v0 .k0) .v1) .v2) (.s (.d 11011001) (.d 11111001)) rfl he hs hl (Zd _ _))]
  rw[List.append_assoc]
  by_cases h1:k<off
  ·rw[if_neg (by exact ln3 [(.lt .v1 .v0)] (.no (.an (.le (.a .v0 .k0) .v1) (.lt .v1 (.a (.a .v0 .k0) .v2)))) (.d 1101) rfl h1),List.getElem?_append_left (by simp;exact ln5 [(.le .v2 .v3),(.le .v3 .v4),(.lt .v0 .v2),(.mi .v1 .v2 .v4)] (.lt .v0 .v1) (.s (.d 11001001) (.d 11111001)) rfl he hs h1 (Yc _ _)),List.getElem?_take_of_lt h1];simp
  ·rw[List.getElem?_append_right (by simp;exact ln4 [(.no (.lt .v1 .v2)),(.mi .v0 .v2 .v3)] (.le .v0 .v1) (.s (.d 11101) (.d 11111)) rfl h1 (Yc _ _))]
   have e0:(xs.toList.take off).length=off:=by simp;exact ln4 [(.le .v1 .v2),(.le .v2 .v3),(.mi .v0 .v1 .v3)] (.eq .v0 .v1) (.s (.s (.d 1100001) (.d 1111001)) (.s (.d 110001) (.d 110011))) rfl he hs (Yc _ _)
   rw[e0]
   by_cases h2:k<e
   ·rw[if_pos (by exact ln5 [(.eq .v2 .v3),(.no (.lt .v1 .v0)),(.lt .v1 .v4),(.sb .v3 .v4 .v0)] (.an (.le (.a .v0 .k0) .v1) (.lt .v1 (.a (.a .v0 .k0) .v2))) (.s (.s (.d 11001) (.d 11001)) (.s (.d 110101001) (.d 1000111))) rfl hl h1 h2 (Zd _ _)),List.getElem?_append_left (by exact ln6 [(.eq .v1 .v2),(.no (.lt .v3 .v4)),(.lt .v3 .v5),(.sb .v2 .v5 .v4),(.sb .v0 .v3 .v4)] (.lt .v0 .v1) (.s (.s (.d 11010100101) (.d 11011100101)) (.s (.d 1000111) (.d 1000111))) rfl hl h1 h2 (Zd _ _) (Zd _ _))];simp
   ·rw[if_neg (by exact ln5 [(.eq .v2 .v3),(.no (.lt .v1 .v4)),(.sb .v3 .v4 .v0)] (.no (.an (.le (.a .v0 .k0) .v1) (.lt .v1 (.a (.a .v0 .k0) .v2)))) (.s (.d 10110101) (.d 11110001)) rfl hl h2 (Zd _ _)),List.getElem?_append_right (by exact ln6 [(.eq .v0 .v2),(.no (.lt .v3 .v4)),(.sb .v2 .v4 .v5),(.sb .v1 .v3 .v5)] (.le .v0 .v1) (.s (.s (.d 11101010001) (.d 11101010101)) (.s (.d 11100010101) (.d 11100010001))) rfl hl h2 (Zd _ _) (Zd _ _)),List.getElem?_drop,hl]
    rw[show e+(k-off-(e-off))=k by exact ln6 [(.le .v3 .v0),(.no (.lt .v2 .v0)),(.sb .v1 .v5 .v4),(.sb .v4 .v0 .v3),(.sb .v5 .v2 .v3)] (.eq (.a .v0 .v1) .v2) (.s (.s (.s (.s (.d 1100001010001) (.d 11101010001)) (.s (.d 1110001010001) (.d 11101010001))) (.s (.s (.d 1100101010001) (.d 11100010001)) (.s (.d 1110101010001) (.d 11100010001)))) (.s (.s (.s (.d 110001000101) (.d 111101000101)) (.s (.d 110001010101) (.d 110101000101))) (.s (.s (.d 110101) (.d 110101)) (.s (.d 110101) (.d 110101))))) rfl he h2 (Zd _ _) (Zd _ _) (Zd _ _)];simp
 rw[Array.perm_iff_toList_perm,key]
 have e1:xs.toList=xs.toList.take off++(xs.extract off e).toList++xs.toList.drop e:=by
  rw[← Zan xs off e he,List.take_append_drop]
 conv=>rhs;rw[e1]
 exact List.Perm.append_right _ (List.Perm.append_left _ hp)
section
variable {prog:Program}{w:World}{A:Around}{E:Value→Shared→Prop}{s:Shared}{a₀:Array Keyed}{κ:SortKind}{key:Keyed→T3}
structure SA (a₀:Array Keyed)(κ:SortKind)(st:SortSt):Prop where
 perm:(arrOf st).Perm a₀
 kind:kindOf st=κ
 ok:failedOf st=none
theorem SA.size {st:SortSt}(h:SA a₀ κ st):(arrOf st).size=a₀.size:=h.perm.size_eq
theorem Zpm {σ:Type}{M:Model}{t st:σ}{Q:PUnit→σ→Prop}(h:Q ⟨⟩ t):wpS M A E s (set t:StateT σ Sem PUnit) Q st:=by
 unfold wpS;exact wpAny_pure ⟨rfl,h⟩
theorem Zpn {xs:Array Keyed}{i j:Nat}{x:Keyed}(h:x∈(xs.extract i j).toList)(hj:j≤xs.size):∃t,i≤t∧t<j∧KS key xs t=key x:=by
 refine byC fun hX=>?_;obtain ⟨t,ht,h1,h2,rfl⟩:=Zfn h hj;refine hX ?_;clear hX
 exact ⟨t,h1,h2,Yq ht⟩
theorem Zjj {xs:Array Keyed}{i j:Nat}(hs:SegS key xs i j)(hj:j≤xs.size):Srt key (xs.extract i j).toList:=by
 rw[← srt_seg]
 intro p q _ hpq hq
 have hsz:(xs.extract i j).size=j-i:=by simp;exact ln6 [(.le .v2 .v3),(.sb .v1 .v2 .v4),(.sb .v0 .v5 .v4),(.mi .v5 .v2 .v3)] (.eq .v0 .v1) (.s (.s (.s (.s (.d 110010001001) (.d 111010001001)) (.s (.d 110010101001) (.d 111010101001))) (.s (.s (.d 110010101) (.d 110010101)) (.s (.d 110010001) (.d 110010001)))) (.s (.s (.s (.d 11000101001) (.d 11000101011)) (.s (.d 11010101) (.d 11010101))) (.s (.s (.d 11010101001) (.d 11010101011)) (.s (.d 11000101) (.d 11000101))))) rfl hj (Zd _ _) (Zd _ _) (Yc _ _)
 rw[hsz] at hq
 have g:∀p,p<j-i→KS key (xs.extract i j) p=KS key xs (i+p):=fun p hp=>U0 (by rw[Array.getElem?_extract];rw[if_pos (by exact ln7 [(.le .v2 .v3),(.lt .v0 .v4),(.sb .v4 .v2 .v5),(.sb .v1 .v6 .v5),(.mi .v6 .v2 .v3)] (.lt .v0 .v1) (.s (.s (.s (.d 1101010001001) (.d 1111010001001)) (.s (.d 1101010101001) (.d 1111010101001))) (.s (.s (.d 1101010101) (.d 1101010101)) (.s (.d 1101010001) (.d 1101010001)))) rfl hj hp (Zd _ _) (Zd _ _) (Yc _ _))])
 rw[g p (by exact ln3 [(.le .v0 .v2),(.lt .v2 .v1)] (.lt .v0 .v1) (.d 1111) rfl hpq hq),g q hq]
 exact hs _ _ (by exact ln2 [] (.le .v0 (.a .v0 .v1)) (.d 11) rfl) (by exact ln3 [(.le .v1 .v2)] (.le (.a .v0 .v1) (.a .v0 .v2)) (.d 111) rfl hpq) (by exact ln4 [(.lt .v1 .v3),(.sb .v3 .v2 .v0)] (.lt (.a .v0 .v1) .v2) (.s (.d 11101) (.d 10101)) rfl hq (Zd _ _))
theorem Zhe {st:SortSt}{i sa na pw sb nb pw2:Nat}{Q:Bool→SortSt→Prop}(H:Wl prog w A E s κ a₀ key)(hA:SA a₀ κ st)(h1:(pendingOf st)[i]?=some (sa,na,pw))(h2:(pendingOf st)[i+1]?=some (sb,nb,pw2))
  (hsb:sb=sa+na) (hna:1≤na) (hnb:1≤nb) (hsz:sb+nb≤a₀.size) (hs1:SegS key (arrOf st) sa sb) (hs2:SegS key (arrOf st) sb (sb+nb))
  (h:∀st',SA a₀ κ st'→pendingOf st'=((pendingOf st).setIfInBounds i (sa,na+nb,pw)).eraseIdxIfInBounds (i+1)→(∀k:Nat,k<sa∨sb+nb≤k→(arrOf st')[k]?=(arrOf st)[k]?)→SegS key (arrOf st') sa (sb+nb)→Q true st') :
  wpS (model prog w) A E s (mergeAt' i) Q st:=by
 have hin:∀i (hi:i<(arrOf st).size),(arrOf st)[i]∈a₀.toList:=fun i hi=>Qn hA.perm hi
 have hz:=hA.size
 rw[Zhd]
 refine wpS_bind (wpS_get ?_)
 dsimp only
 rw[h1,h2]
 dsimp only
 refine wpS_bind (Zpm ?_)
 have key0:∀st':SortSt,st'=SortSt.mk' (kindOf st) (arrOf st) (((pendingOf st).setIfInBounds i (sa,na+nb,pw)).eraseIdxIfInBounds (i+1)) (gallopOf st) (failedOf st)→SegS key (arrOf st) sa (sb+nb)→Q true st':=fun st' e hs=>by
  subst e;exact h _ ⟨hA.perm,hA.kind,hA.ok⟩ rfl (fun u_ v_=>rfl) hs
 refine wpS_bind (Yh (show sb<(arrOf st).size by exact ln4 [(.le .k1 .v2),(.le (.a .v0 .v2) .v3),(.eq .v1 .v3)] (.lt .v0 .v1) (.d 111101) rfl hnb hsz hz) (wpS_bind (Uv H hA.kind (hin _ _) hin (by exact ln6 [(.eq .v3 (.a .v0 .v1)),(.le (.a .v3 .v4) .v5),(.eq .v2 .v5)] (.le (.a .v0 .v1) .v2) (.d 1101101) rfl hsb hsz hz) (hsb▸hs1) (by exact ln1 [(.le .k1 .v0)] (.lt .k0 .v0) (.d 111) rfl hna) fun k hkn g1 g2=>?_)))
 dsimp only
 simp only[Bool.false_eq_true,if_false] at g1 g2
 have f1:∀t,sa≤t→t<sa+k→T3.le (KS key (arrOf st) t) (KS key (arrOf st) sb)=true:=fun t ht1 ht2=>by
  have:=g1 (t-sa) (by exact ln4 [(.le .v2 .v3),(.lt .v3 (.a .v2 .v1)),(.sb .v0 .v3 .v2)] (.lt .v0 .v1) (.s (.d 110101) (.d 111101)) rfl ht1 ht2 (Zd _ _))
  rw[show sa+(t-sa)=t by exact ln3 [(.le .v0 .v2),(.sb .v1 .v2 .v0)] (.eq (.a .v0 .v1) .v2) (.s (.s (.d 110001) (.d 110101)) (.s (.d 11001) (.d 11101))) rfl ht1 (Zd _ _)] at this
  rw[Yq (show sb<(arrOf st).size by exact ln4 [(.le .k1 .v2),(.le (.a .v0 .v2) .v3),(.eq .v1 .v3)] (.lt .v0 .v1) (.d 111101) rfl hnb hsz hz)];exact this
 have f2:∀t,sa+k≤t→t<sb→T3.le (KS key (arrOf st) sb) (KS key (arrOf st) t)=true:=fun t ht1 ht2=>by
  have:=g2 (t-sa) (by exact ln4 [(.le (.a .v2 .v0) .v3),(.sb .v1 .v3 .v2)] (.le .v0 .v1) (.s (.d 111001) (.d 111101)) rfl ht1 (Zd _ _)) (by exact ln5 [(.eq .v2 (.a .v3 .v1)),(.le .k1 .v1),(.lt .v4 .v2),(.sb .v0 .v4 .v3)] (.lt .v0 .v1) (.s (.d 11100101) (.d 11001001)) rfl hsb hna ht2 (Zd _ _))
  rw[show sa+(t-sa)=t by exact ln4 [(.le (.a .v0 .v3) .v2),(.sb .v1 .v2 .v0)] (.eq (.a .v0 .v1) .v2) (.s (.s (.d 110001) (.d 110101)) (.s (.d 11001) (.d 11101))) rfl ht1 (Zd _ _)] at this
  rw[Yq (show sb<(arrOf st).size by exact ln4 [(.le .k1 .v2),(.le (.a .v0 .v2) .v3),(.eq .v1 .v3)] (.lt .v0 .v1) (.d 111101) rfl hnb hsz hz)];exact Yv this
 by_cases hk0:na-k=0
 ·rw[if_pos (by simpa using hk0)]
  refine wpS_pure (key0 _ rfl fun p q hp hpq hq=>?_)
  by_cases c1:q<sb
  ·exact hs1 p q hp hpq c1
  ·by_cases c2:sb≤p
   ·exact hs2 p q c2 hpq hq
   ·exact Z4 (f1 p hp (by exact ln6 [(.eq .v3 (.a .v1 .v4)),(.eq .v5 .k0),(.no (.le .v3 .v0)),(.sb .v5 .v4 .v2)] (.lt .v0 (.a .v1 .v2)) (.s (.d 1110101001) (.d 11100011)) rfl hsb hk0 c2 (Zd _ _))) (hs2 sb q (Nat.le_refl _) (by exact ln2 [(.no (.lt .v1 .v0))] (.le .v0 .v1) (.d 111) rfl c1) hq)
 ·rw[if_neg (by simpa using hk0)]
  have hlast:sa+k+(na-k)-1=sb-1:=by exact ln7 [(.eq .v2 (.a .v3 .v4)),(.le .v5 .v4),(.sb .v1 .v2 .k1),(.sb .v0 (.a (.a .v3 .v5) .v6) .k1),(.sb .v6 .v4 .v5)] (.eq .v0 .v1) (.s (.s (.s (.s (.d 11100010001001) (.d 11100010001101)) (.s (.d 11100010101001) (.d 11100010101101))) (.s (.s (.d 11000010101) (.d 11000010101)) (.s (.d 11000010001) (.d 11000010001)))) (.s (.s (.s (.d 1101000101001) (.d 1101100101001)) (.s (.d 1100010101) (.d 1100010101))) (.s (.s (.d 1101010101001) (.d 1101110101001)) (.s (.d 1100000101) (.d 1100000101))))) rfl hsb hkn (Zd _ _) (Zd _ _) (Zd _ _)
  rw[hlast]
  refine wpS_bind (Yh (show sb-1<(arrOf st).size by exact ln5 [(.le .k1 .v2),(.le (.a .v3 .v2) .v4),(.eq .v1 .v4),(.sb .v0 .v3 .k1)] (.lt .v0 .v1) (.s (.d 11110101) (.d 11110101)) rfl hnb hsz hz (Zd _ _)) (wpS_bind (Uv H hA.kind (hin _ _) hin (by exact ln4 [(.le (.a .v0 .v1) .v3),(.eq .v2 .v3)] (.le (.a .v0 .v1) .v2) (.d 11101) rfl hsz hz) hs2 (by exact ln2 [(.le .k1 .v1),(.sb .v0 .v1 .k1)] (.lt .v0 .v1) (.s (.d 11001) (.d 11101)) rfl hnb (Zd _ _)) fun m hmn g3 g4=>?_)))
  dsimp only
  simp only[if_true] at g3 g4
  have f3:∀t,sb≤t→t<sb+m→T3.le (KS key (arrOf st) t) (KS key (arrOf st) (sb-1))=true:=fun t ht1 ht2=>by
   have:=g3 (t-sb) (by exact ln4 [(.le .v2 .v3),(.lt .v3 (.a .v2 .v1)),(.sb .v0 .v3 .v2)] (.lt .v0 .v1) (.s (.d 110101) (.d 111101)) rfl ht1 ht2 (Zd _ _))
   rw[show sb+(t-sb)=t by exact ln3 [(.le .v0 .v2),(.sb .v1 .v2 .v0)] (.eq (.a .v0 .v1) .v2) (.s (.s (.d 110001) (.d 110101)) (.s (.d 11001) (.d 11101))) rfl ht1 (Zd _ _)] at this
   rw[Yq (show sb-1<(arrOf st).size by exact ln5 [(.le .k1 .v2),(.le (.a .v3 .v2) .v4),(.eq .v1 .v4),(.sb .v0 .v3 .k1)] (.lt .v0 .v1) (.s (.d 11110101) (.d 11110101)) rfl hnb hsz hz (Zd _ _))];exact Yv (by simpa using this)
  have f4:∀t,sb+m≤t→t<sb+nb→T3.le (KS key (arrOf st) (sb-1)) (KS key (arrOf st) t)=true:=fun t ht1 ht2=>by
   have:=g4 (t-sb) (by exact ln4 [(.le (.a .v2 .v0) .v3),(.sb .v1 .v3 .v2)] (.le .v0 .v1) (.s (.d 111001) (.d 111101)) rfl ht1 (Zd _ _)) (by exact ln4 [(.le .k1 .v1),(.lt .v2 (.a .v3 .v1)),(.sb .v0 .v2 .v3)] (.lt .v0 .v1) (.s (.d 110101) (.d 111001)) rfl hnb ht2 (Zd _ _))
   rw[show sb+(t-sb)=t by exact ln4 [(.le (.a .v0 .v3) .v2),(.sb .v1 .v2 .v0)] (.eq (.a .v0 .v1) .v2) (.s (.s (.d 110001) (.d 110101)) (.s (.d 11001) (.d 11101))) rfl ht1 (Zd _ _)] at this
   rw[Yq (show sb-1<(arrOf st).size by exact ln5 [(.le .k1 .v2),(.le (.a .v3 .v2) .v4),(.eq .v1 .v4),(.sb .v0 .v3 .k1)] (.lt .v0 .v1) (.s (.d 11110101) (.d 11110101)) rfl hnb hsz hz (Zd _ _))];simpa using this
  by_cases hm0:m=0
  ·rw[if_pos (by simpa using hm0)]
   refine wpS_pure (key0 _ rfl fun p q hp hpq hq=>?_)
   by_cases c1:q<sb
   ·exact hs1 p q hp hpq c1
   ·by_cases c2:sb≤p
    ·exact hs2 p q c2 hpq hq
    ·exact Z4 (hs1 p (sb-1) hp (by exact ln3 [(.no (.le .v2 .v0)),(.sb .v1 .v2 .k1)] (.le .v0 .v1) (.s (.d 111001) (.d 111101)) rfl c2 (Zd _ _)) (by exact ln3 [(.no (.le .v1 .v2)),(.sb .v0 .v1 .k1)] (.lt .v0 .v1) (.s (.d 11001) (.d 11101)) rfl c2 (Zd _ _))) (f4 q (by exact ln3 [(.eq .v1 .k0),(.no (.lt .v2 .v0))] (.le (.a .v0 .v1) .v2) (.d 11101) rfl hm0 c1) hq)
  ·rw[if_neg (by simpa using hm0)]
   have hx:∀j (hj:j<((arrOf st).extract (sa+k) sb).size),((arrOf st).extract (sa+k) sb)[j]=(arrOf st)[sa+k+j]'(by simp at hj;lia):=fun j hj=>by simp
   have hy:∀j (hj:j<((arrOf st).extract sb (sb+m)).size),((arrOf st).extract sb (sb+m))[j]=(arrOf st)[sb+j]'(by simp at hj;lia):=fun j hj=>by simp
   have zx:((arrOf st).extract (sa+k) sb).size=na-k:=by simp;exact lin [(.eq .v2 (.a .v3 .v4)),(.le (.a .v2 .v5) .v6),(.eq .v7 .v6),(.sb .v1 .v4 .v8),(.sb .v0 .v9 (.a .v3 .v8)),(.mi .v9 .v2 .v7)] (.eq .v0 .v1) (.s (.s (.s (.s (.d 1101000010001001) (.d 1101101010001001)) (.s (.d 1101000010101001) (.d 1101101010101001))) (.s (.s (.d 1100000010101) (.d 1100000010101)) (.s (.d 1100000010001) (.d 1100000010001)))) (.s (.s (.s (.d 111000000101001) (.d 111000000101011)) (.s (.d 110000010101) (.d 110000010101))) (.s (.s (.d 111000010101001) (.d 111000010101011)) (.s (.d 110000000101) (.d 110000000101))))) rfl [_,_,_,_,_,_,_,_,_,_] [] hsb hsz hz (Zd _ _) (Zd _ _) (Yc _ _)
   have zy:((arrOf st).extract sb (sb+m)).size=m:=by simp;exact ln7 [(.le (.a .v2 .v3) .v4),(.eq .v5 .v4),(.le .v1 .v3),(.sb .v0 .v6 .v2),(.mi .v6 (.a .v2 .v1) .v5)] (.eq .v0 .v1) (.s (.s (.s (.d 110000001001) (.d 111011001001)) (.s (.d 110000101001) (.d 111011101001))) (.s (.s (.d 11000001001) (.d 11000001011)) (.s (.d 11000001) (.d 11000001)))) rfl hsz hz hmn (Zd _ _) (Yc _ _)
   have T:Two a₀ key ((arrOf st).extract (sa+k) sb) ((arrOf st).extract sb (sb+m)):=by
    refine ⟨fun j hj=>by rw[hx j hj];exact hin _ _,fun j hj=>by rw[hy j hj];exact hin _ _,Zjj (fun p q a1 a2 a3=>hs1 p q (by exact ln3 [(.le (.a .v0 .v2) .v1)] (.le .v0 .v1) (.d 111) rfl a1) a2 a3) (by exact ln4 [(.le (.a .v0 .v2) .v3),(.eq .v1 .v3)] (.le .v0 .v1) (.d 11101) rfl hsz hz),Zjj (fun p q a1 a2 a3=>hs2 p q a1 a2 (by exact ln4 [(.le .v3 .v2),(.lt .v0 (.a .v1 .v3))] (.lt .v0 (.a .v1 .v2)) (.d 1111) rfl hmn a3)) (by exact ln5 [(.le (.a .v0 .v3) .v4),(.eq .v2 .v4),(.le .v1 .v3)] (.le (.a .v0 .v1) .v2) (.d 111011) rfl hsz hz hmn),by exact ln2 [(.eq .v0 .v1),(.no (.eq .v1 .k0))] (.le .k1 .v0) (.s (.d 10101) (.d 11011)) rfl zx hk0,by exact ln2 [(.eq .v0 .v1),(.no (.eq .v1 .k0))] (.le .k1 .v0) (.s (.d 10101) (.d 11011)) rfl zy hm0,fun j hj h0=>?_,fun j hj h0=>?_⟩
    ·rw[hx j hj,hy 0 h0]
     have:=f2 (sa+k+j) (by exact ln3 [] (.le (.a .v0 .v1) (.a (.a .v0 .v1) .v2)) (.d 11) rfl) (by exact ln7 [(.eq .v3 (.a .v0 .v4)),(.eq .v5 .v6),(.lt .v2 .v5),(.sb .v6 .v4 .v1)] (.lt (.a (.a .v0 .v1) .v2) .v3) (.s (.d 110110101) (.d 100010101)) rfl hsb zx hj (Zd _ _))
     rw[Yq (by exact ln4 [(.le .k1 .v2),(.le (.a .v0 .v2) .v3),(.eq .v1 .v3)] (.lt .v0 .v1) (.d 111101) rfl hnb hsz hz),Yq (by exact lin [(.eq .v4 (.a .v0 .v5)),(.le (.a .v4 .v6) .v7),(.eq .v3 .v7),(.eq .v8 .v9),(.lt .v2 .v8),(.sb .v9 .v5 .v1)] (.lt (.a (.a .v0 .v1) .v2) .v3) (.s (.d 110110110101) (.d 100000010101)) rfl [_,_,_,_,_,_,_,_,_,_] [] hsb hsz hz zx hj (Zd _ _))] at this
     exact this
    ·rw[hx _ h0,hy j hj]
     have:=f3 (sb+j) (by exact ln2 [] (.le .v0 (.a .v0 .v1)) (.d 11) rfl) (by exact ln4 [(.eq .v3 .v2),(.lt .v1 .v3)] (.lt (.a .v0 .v1) (.a .v0 .v2)) (.d 11101) rfl zy hj)
     rw[Yq (by exact ln7 [(.le (.a .v0 .v3) .v4),(.eq .v2 .v4),(.le .v5 .v3),(.eq .v6 .v5),(.lt .v1 .v6)] (.lt (.a .v0 .v1) .v2) (.d 111011101) rfl hsz hz hmn zy hj),Yq (by exact ln5 [(.le .k1 .v2),(.le (.a .v3 .v2) .v4),(.eq .v1 .v4),(.sb .v0 .v3 .k1)] (.lt .v0 .v1) (.s (.d 11110101) (.d 11110101)) rfl hnb hsz hz (Zd _ _))] at this
     have e:sa+k+(((arrOf st).extract (sa+k) sb).size-1)=sb-1:=by exact ln7 [(.eq .v4 .v3),(.eq .v5 .v6),(.lt .v2 .v5),(.sb .v4 (.a (.a .v0 .v1) .v6) .k1),(.sb .v2 .v5 .k1)] (.eq (.a (.a .v0 .v1) .v2) .v3) (.s (.s (.s (.d 1101010010001) (.d 1101010010101)) (.s (.d 1101000010101) (.d 1101000010001))) (.s (.s (.d 1110101001) (.d 1110101001)) (.s (.d 1110101101) (.d 1110101101)))) rfl hlast zx h0 (Zd _ _) (Zd _ _)
     simp only[e]
     exact this
   have fin : ∀ (r : Array Keyed) (st' : SortSt), Same (SortSt.mk' (kindOf st) (arrOf st) (((pendingOf st).setIfInBounds i (sa, na + nb, pw)).eraseIdxIfInBounds (i + 1)) (gallopOf st) (failedOf st)) st' → Res key ((arrOf st).extract (sa + k) sb) ((arrOf st).extract sb (sb + m)) r →
     Q true (setArr st' (Zdd (arrOf st') (sa+k) r.toList.zipIdx))∧(failedOf st').isNone=true:=by
    intro r st' hS hR
    have earr:arrOf st'=arrOf st:=hS.arr
    have hfail:failedOf st'=none:=hS.ok.trans hA.ok
    have hcat:((arrOf st).extract (sa+k) sb).toList++((arrOf st).extract sb (sb+m)).toList=((arrOf st).extract (sa+k) (sb+m)).toList:=by
     rw[← Array.toList_append,Array.extract_append_extract]
     congr 2 <;> lia
    have hp:r.toList.Perm ((arrOf st).extract (sa+k) (sb+m)).toList:=hcat▸hR.1
    have hlen:r.toList.length=sb+m-(sa+k):=by rw[hp.length_eq];simp;exact lin [(.le (.a .v2 .v3) .v4),(.eq .v5 .v4),(.le .v6 .v3),(.mi .v0 .v1 .v7),(.sb .v7 .v5 (.a .v8 .v9)),(.sb .v1 (.a .v2 .v6) (.a .v8 .v9))] (.eq .v0 .v1) (.s (.s (.s (.s (.d 110000001) (.d 110000001)) (.s (.d 110000001) (.d 110000001))) (.s (.s (.d 11101100100101) (.d 11000000110101)) (.s (.d 11101100110101) (.d 11000000100101)))) (.s (.s (.s (.d 11000001) (.d 11000001)) (.s (.d 11000001) (.d 11000001))) (.s (.s (.d 11000011) (.d 11000011)) (.s (.d 11000011) (.d 11000011))))) rfl [_,_,_,_,_,_,_,_,_,_] [] hsz hz hmn (Yc _ _) (Zd _ _) (Zd _ _)
    have hget:∀t,KS key (Zdd (arrOf st) (sa+k) r.toList.zipIdx) t=if sa+k≤t∧t<sb+m then key (r.toList[t-(sa+k)]?.getD default) else KS key (arrOf st) t:=fun t=>by
     unfold KS
     rw[Za8 (sa+k) r.toList 0 (arrOf st) (by exact lin [(.eq .v4 (.a .v0 .v5)),(.le (.a .v4 .v6) .v7),(.eq .v3 .v7),(.le .v1 .v5),(.le .v8 .v6),(.eq .v2 .v9),(.sb .v9 (.a .v4 .v8) (.a .v0 .v1))] (.le (.a (.a (.a .v0 .v1) .k0) .v2) .v3) (.s (.d 1100101011001) (.d 1101101111001)) rfl [_,_,_,_,_,_,_,_,_,_] [] hsb hsz hz hkn hmn hlen (Zd _ _))]
     by_cases c:sa+k≤t∧t<sb+m
     ·rw[if_pos (by exact ln7 [(.eq .v3 .v4),(.an (.le (.a .v0 .v1) .v2) (.lt .v2 (.a .v5 .v6))),(.sb .v4 (.a .v5 .v6) (.a .v0 .v1))] (.an (.le (.a (.a .v0 .v1) .k0) .v2) (.lt .v2 (.a (.a (.a .v0 .v1) .k0) .v3))) (.s (.s (.d 11001) (.d 11001)) (.s (.d 110101001) (.d 1000111))) rfl hlen c (Zd _ _)),if_pos c];rfl
     ·rw[if_neg (by exact ln7 [(.eq .v3 .v4),(.no (.an (.le (.a .v0 .v1) .v2) (.lt .v2 (.a .v5 .v6)))),(.sb .v4 (.a .v5 .v6) (.a .v0 .v1))] (.no (.an (.le (.a (.a .v0 .v1) .k0) .v2) (.lt .v2 (.a (.a (.a .v0 .v1) .k0) .v3)))) (.s (.s (.d 110001) (.d 110001)) (.s (.d 10110101) (.d 11110001))) rfl hlen c (Zd _ _)),if_neg c]
    have hr:∀t,sa+k≤t→t<sb+m→∃u,sa+k≤u∧u<sb+m∧key (r.toList[t-(sa+k)]?.getD default)=KS key (arrOf st) u:=fun t t1 t2=>by
     have ht:t-(sa+k)<r.toList.length:=by exact lin [(.eq .v1 .v2),(.le (.a .v3 .v4) .v5),(.lt .v5 (.a .v6 .v7)),(.sb .v2 (.a .v6 .v7) (.a .v3 .v4)),(.sb .v0 .v5 (.a .v3 .v4))] (.lt .v0 .v1) (.s (.s (.d 11010100101) (.d 11011100101)) (.s (.d 1000111) (.d 1000111))) rfl [_,_,_,_,_,_,_,_] [] hlen t1 t2 (Zd _ _) (Zd _ _)
     rw[List.getElem?_eq_getElem ht]
     obtain ⟨u,u1,u2,u3⟩:=Zpn (key:=key) (hp.mem_iff.mp (List.getElem_mem ht)) (by exact ln5 [(.le (.a .v0 .v3) .v4),(.eq .v2 .v4),(.le .v1 .v3)] (.le (.a .v0 .v1) .v2) (.d 111011) rfl hsz hz hmn)
     exact ⟨u,u1,u2,u3.symm⟩
    have low:∀p u,sa≤p→p<sa+k→sa+k≤u→u<sb+m→T3.le (KS key (arrOf st) p) (KS key (arrOf st) u)=true:=fun p u p1 p2 u1 u2=>by
     by_cases c:u<sb
     ·exact hs1 p u p1 (by exact ln4 [(.lt .v0 (.a .v2 .v3)),(.le (.a .v2 .v3) .v1)] (.le .v0 .v1) (.d 1111) rfl p2 u1) c
     ·exact Z4 (f1 p p1 p2) (hs2 sb u (Nat.le_refl _) (by exact ln2 [(.no (.lt .v1 .v0))] (.le .v0 .v1) (.d 111) rfl c) (by exact ln4 [(.le .v3 .v2),(.lt .v0 (.a .v1 .v3))] (.lt .v0 (.a .v1 .v2)) (.d 1111) rfl hmn u2))
    have high:∀u q,sa+k≤u→u<sb+m→sb+m≤q→q<sb+nb→T3.le (KS key (arrOf st) u) (KS key (arrOf st) q)=true:=fun u q u1 u2 q1 q2=>by
     by_cases c:u<sb
     ·exact Z4 (hs1 u (sb-1) (by exact ln3 [(.le (.a .v0 .v2) .v1)] (.le .v0 .v1) (.d 111) rfl u1) (by exact ln3 [(.lt .v0 .v2),(.sb .v1 .v2 .k1)] (.le .v0 .v1) (.s (.d 111001) (.d 111101)) rfl c (Zd _ _)) (by exact ln3 [(.lt .v2 .v1),(.sb .v0 .v1 .k1)] (.lt .v0 .v1) (.s (.d 11001) (.d 11101)) rfl c (Zd _ _))) (f4 q q1 q2)
     ·exact hs2 u q (by exact ln2 [(.no (.lt .v1 .v0))] (.le .v0 .v1) (.d 111) rfl c) (by exact ln4 [(.lt .v0 (.a .v2 .v3)),(.le (.a .v2 .v3) .v1)] (.le .v0 .v1) (.d 1111) rfl u2 q1) q2
    refine ⟨?_,by rw[hfail];rfl⟩
    rw[earr]
    refine h _ ⟨?_,hS.kind.trans hA.kind,hfail⟩ hS.pend (fun t ht=>?_) fun p q p1 pq q1=>?_
    ·exact (Zk3 (by exact ln5 [(.eq .v2 (.a .v0 .v4)),(.le .v1 .v4)] (.le (.a .v0 .v1) (.a .v2 .v3)) (.d 11011) rfl hsb hkn) (by exact ln5 [(.le (.a .v0 .v3) .v4),(.eq .v2 .v4),(.le .v1 .v3)] (.le (.a .v0 .v1) .v2) (.d 111011) rfl hsz hz hmn) hp).trans hA.perm
    ·show (Zdd (arrOf st) (sa+k) r.toList.zipIdx)[t]?=_
     rw[Za8 (sa+k) r.toList 0 (arrOf st) (by exact lin [(.eq .v4 (.a .v0 .v5)),(.le (.a .v4 .v6) .v7),(.eq .v3 .v7),(.le .v1 .v5),(.le .v8 .v6),(.eq .v2 .v9),(.sb .v9 (.a .v4 .v8) (.a .v0 .v1))] (.le (.a (.a (.a .v0 .v1) .k0) .v2) .v3) (.s (.d 1100101011001) (.d 1101101111001)) rfl [_,_,_,_,_,_,_,_,_,_] [] hsb hsz hz hkn hmn hlen (Zd _ _)),if_neg (by exact lin [(.le .v4 .v5),(.eq .v3 .v6),(.or (.lt .v2 .v0) (.le (.a .v7 .v5) .v2)),(.sb .v6 (.a .v7 .v4) (.a .v0 .v1))] (.no (.an (.le (.a (.a .v0 .v1) .k0) .v2) (.lt .v2 (.a (.a (.a .v0 .v1) .k0) .v3)))) (.s (.s (.d 1100001) (.d 111010001)) (.s (.d 101110101) (.d 111010001))) rfl [_,_,_,_,_,_,_,_] [] hmn hlen ht (Zd _ _))]
    ·show T3.le (KS key (Zdd (arrOf st) (sa+k) r.toList.zipIdx) p) (KS key (Zdd (arrOf st) (sa+k) r.toList.zipIdx) q)=true
     rw[hget p,hget q]
     by_cases cp:sa+k≤p∧p<sb+m
     ·rw[if_pos cp]
      by_cases cq:sa+k≤q∧q<sb+m
      ·rw[if_pos cq]
       have h1':p-(sa+k)<r.toList.length:=by exact lin [(.eq .v1 .v2),(.an (.le (.a .v3 .v4) .v5) (.lt .v5 (.a .v6 .v7))),(.sb .v2 (.a .v6 .v7) (.a .v3 .v4)),(.sb .v0 .v5 (.a .v3 .v4))] (.lt .v0 .v1) (.s (.s (.d 11010100101) (.d 11011100101)) (.s (.d 1000111) (.d 1000111))) rfl [_,_,_,_,_,_,_,_] [] hlen cp (Zd _ _) (Zd _ _)
       have h2':q-(sa+k)<r.toList.length:=by exact lin [(.eq .v1 .v2),(.an (.le (.a .v3 .v4) .v5) (.lt .v5 (.a .v6 .v7))),(.sb .v2 (.a .v6 .v7) (.a .v3 .v4)),(.sb .v0 .v5 (.a .v3 .v4))] (.lt .v0 .v1) (.s (.s (.d 11010100101) (.d 11011100101)) (.s (.d 1000111) (.d 1000111))) rfl [_,_,_,_,_,_,_,_] [] hlen cq (Zd _ _) (Zd _ _)
       rw[List.getElem?_eq_getElem h1',List.getElem?_eq_getElem h2']
       have:=X2 hR.2 (i:=p-(sa+k)) (j:=q-(sa+k)) (by simpa using h1') (by simpa using h2') (by exact ln6 [(.le .v2 .v3),(.sb .v1 .v3 (.a .v4 .v5)),(.sb .v0 .v2 (.a .v4 .v5))] (.le .v0 .v1) (.s (.s (.d 11100101) (.d 11010101)) (.s (.d 11110101) (.d 11000101))) rfl pq (Zd _ _) (Zd _ _))
       simpa using this
      ·rw[if_neg cq]
       refine byC fun hX=>?_;obtain ⟨u,u1,u2,u3⟩:=hr p cp.1 cp.2;refine hX ?_;clear hX
       rw[u3];exact high u q u1 u2 (by exact ln6 [(.le .v3 .v2),(.an (.le (.a .v4 .v5) .v3) (.lt .v3 (.a .v0 .v1))),(.no (.an (.le (.a .v4 .v5) .v2) (.lt .v2 (.a .v0 .v1))))] (.le (.a .v0 .v1) .v2) (.s (.d 101101) (.d 110001)) rfl pq cp cq) q1
     ·rw[if_neg cp]
      by_cases cq:sa+k≤q∧q<sb+m
      ·rw[if_pos cq]
       refine byC fun hX=>?_;obtain ⟨u,u1,u2,u3⟩:=hr q cq.1 cq.2;refine hX ?_;clear hX
       rw[u3];exact low p u p1 (by exact ln6 [(.le .v0 .v3),(.an (.le (.a .v1 .v2) .v3) (.lt .v3 (.a .v4 .v5))),(.no (.an (.le (.a .v1 .v2) .v0) (.lt .v0 (.a .v4 .v5))))] (.lt .v0 (.a .v1 .v2)) (.s (.d 110001) (.d 101011)) rfl pq cq cp) u1 u2
      ·rw[if_neg cq]
       by_cases c1:q<sb
       ·exact hs1 p q p1 pq c1
       ·by_cases c2:sb≤p
        ·exact hs2 p q c2 pq q1
        ·exact Z4 (low p sb p1 (by exact ln5 [(.no (.le .v3 .v0)),(.no (.an (.le (.a .v1 .v2) .v0) (.lt .v0 (.a .v3 .v4))))] (.lt .v0 (.a .v1 .v2)) (.s (.d 1101) (.d 1011)) rfl c2 cp) (by exact ln4 [(.eq .v2 (.a .v0 .v3)),(.le .v1 .v3)] (.le (.a .v0 .v1) .v2) (.d 11011) rfl hsb hkn) (by exact ln2 [(.no (.eq .v1 .k0))] (.lt .v0 (.a .v0 .v1)) (.s (.d 101) (.d 111)) rfl hm0)) (hs2 sb q (Nat.le_refl _) (by exact ln2 [(.no (.lt .v1 .v0))] (.le .v0 .v1) (.d 111) rfl c1) q1)
   by_cases hc:na-k≤m
   ·rw[if_pos hc]
    refine wpS_bind (Zg8 H hA.kind T fun r st' hS hR=>?_)
    refine byC fun hX=>?_;obtain ⟨q1,q2⟩:=fin r st' hS hR;refine hX ?_;clear hX
    refine wpS_bind (wpS_modify (wpS_bind (wpS_get (wpS_pure ?_))))
    rw[show (failedOf (setArr st' (Zdd (arrOf st') (sa+k) r.toList.zipIdx))).isNone=true from q2]
    exact q1
   ·rw[if_neg hc]
    refine wpS_bind (Zhc H hA.kind T fun r st' hS hR=>?_)
    refine byC fun hX=>?_;obtain ⟨q1,q2⟩:=fin r st' hS hR;refine hX ?_;clear hX
    refine wpS_bind (wpS_modify (wpS_bind (wpS_get (wpS_pure ?_))))
    rw[show (failedOf (setArr st' (Zdd (arrOf st') (sa+k) r.toList.zipIdx))).isNone=true from q2]
    exact q1
end
noncomputable def Runs (key:Keyed→T3)(xs:Array Keyed):Nat→List (Nat×Nat×Nat)→Nat→Prop
 | b,[],e=>b=e
 | b,r::l,e=>r.1=b∧1≤r.2.1∧SegS key xs b (b+r.2.1)∧Runs key xs (b+r.2.1) l e
section
variable {key:Keyed→T3}{xs ys:Array Keyed}
theorem SegS.congr {i j:Nat}(h:SegS key xs i j)(he:∀k:Nat,i≤k→k<j→ys[k]?=xs[k]?):SegS key ys i j:=fun p q h1 h2 h3=>by
 rw[U0 (he p h1 (by exact ln3 [(.le .v0 .v2),(.lt .v2 .v1)] (.lt .v0 .v1) (.d 1111) rfl h2 h3)),U0 (he q (by exact ln3 [(.le .v0 .v2),(.le .v2 .v1)] (.le .v0 .v1) (.d 1111) rfl h1 h2) h3)];exact h p q h1 h2 h3
theorem Runs.le:∀{l:List (Nat×Nat×Nat)}{b e:Nat},Runs key xs b l e→b+l.length≤e
 | [],b,e,h=>by have:b=e:=h;simp;exact ln2 [(.eq .v0 .v1)] (.le .v0 .v1) (.d 111) rfl this
 | r::l,b,e,h=>by obtain ⟨_,h2,_,h4⟩:=h;have:=Runs.le h4;simp;exact ln4 [(.le .k1 .v3),(.le (.a (.a .v0 .v3) .v1) .v2)] (.le (.a .v0 (.a .v1 .k1)) .v2) (.d 1111) rfl h2 this
theorem Runs.congr:∀{l:List (Nat×Nat×Nat)}{b e:Nat},Runs key xs b l e→(∀k:Nat,b≤k→k<e→ys[k]?=xs[k]?)→Runs key ys b l e
 | [],b,e,h,_=>h
 | r::l,b,e,h,he=>by
  refine byC fun hX=>?_;obtain ⟨h1,h2,h3,h4⟩:=h;refine hX ?_;clear hX
  have:=Runs.le h4
  exact ⟨h1,h2,h3.congr fun k a1 a2=>he k a1 (by exact ln5 [(.le (.a (.a .v2 .v3) .v4) .v1),(.lt .v0 (.a .v2 .v3))] (.lt .v0 .v1) (.d 1111) rfl this a2),Runs.congr h4 fun k a1 a2=>he k (by exact ln3 [(.le (.a .v0 .v2) .v1)] (.le .v0 .v1) (.d 111) rfl a1) a2⟩
theorem Runs.snoc:∀{l:List (Nat×Nat×Nat)}{b e n w:Nat},Runs key xs b l e→1≤n→SegS key xs e (e+n)→Runs key xs b (l++[(e,n,w)]) (e+n)
 | [],b,e,n,w,h,hn,hs=>by have h:b=e:=h;subst h;exact ⟨rfl,hn,hs,rfl⟩
 | r::l,b,e,n,w,h,hn,hs=>by
  refine byC fun hX=>?_;obtain ⟨h1,h2,h3,h4⟩:=h;refine hX ?_;clear hX
  exact ⟨h1,h2,h3,Runs.snoc h4 hn hs⟩
theorem Runs.pair:∀{l1:List (Nat×Nat×Nat)}{b e:Nat}{r1 r2:Nat×Nat×Nat}{l2:List (Nat×Nat×Nat)},Runs key xs b (l1++r1::r2::l2) e→b≤r1.1∧1≤r1.2.1∧1≤r2.2.1∧r2.1=r1.1+r1.2.1∧r2.1+r2.2.1≤e∧SegS key xs r1.1 r2.1∧SegS key xs r2.1 (r2.1+r2.2.1)
 | [],b,e,r1,r2,l2,h=>by
  refine byC fun hX=>?_;obtain ⟨h1,h2,h3,h4,h5,h6,h7⟩:=h;refine hX ?_;clear hX
  have:=Runs.le h7
  subst h1
  refine ⟨Nat.le_refl _,h2,h5,h4,by exact ln6 [(.eq .v0 (.a .v3 .v4)),(.le (.a (.a (.a .v3 .v4) .v1) .v5) .v2)] (.le (.a .v0 .v1) .v2) (.d 11101) rfl h4 this,?_,?_⟩
  ·rw[h4];exact h3
  ·rw[h4];exact h6
 | r::l1,b,e,r1,r2,l2,h=>by
  refine byC fun hX=>?_;obtain ⟨h1,h2,h3,h4⟩:=h;refine hX ?_;clear hX
  refine byC fun hX=>?_;obtain ⟨g1,g⟩:=Runs.pair h4;refine hX ?_;clear hX
  exact ⟨by exact ln3 [(.le (.a .v0 .v2) .v1)] (.le .v0 .v1) (.d 111) rfl g1,g⟩
theorem Runs.join:∀{l1:List (Nat×Nat×Nat)}{b e:Nat}{r1 r2:Nat×Nat×Nat}{l2:List (Nat×Nat×Nat)}{w:Nat},Runs key xs b (l1++r1::r2::l2) e→(∀k:Nat,k<r1.1∨r2.1+r2.2.1≤k→ys[k]?=xs[k]?)→SegS key ys r1.1 (r2.1+r2.2.1)→Runs key ys b (l1++(r1.1,r1.2.1+r2.2.1,w)::l2) e
 | [],b,e,r1,r2,l2,w,h,hk,hs=>by
  refine byC fun hX=>?_;obtain ⟨h1,h2,h3,h4,h5,h6,h7⟩:=h;refine hX ?_;clear hX
  subst h1
  refine ⟨rfl,by show 1≤r1.2.1+r2.2.1;exact ln2 [(.le .k1 .v1)] (.le .k1 (.a .v0 .v1)) (.d 111) rfl h5,?_,?_⟩
  ·show SegS key ys r1.1 (r1.1+(r1.2.1+r2.2.1))
   rw[← Nat.add_assoc,← h4];exact hs
  ·show Runs key ys (r1.1+(r1.2.1+r2.2.1)) l2 e
   rw[← Nat.add_assoc]
   exact h7.congr fun k a1 a2=>hk k (.inr (by exact ln5 [(.eq .v0 (.a .v3 .v4)),(.le (.a (.a .v3 .v4) .v1) .v2)] (.le (.a .v0 .v1) .v2) (.d 11101) rfl h4 a1))
 | r::l1,b,e,r1,r2,l2,w,h,hk,hs=>by
  refine byC fun hX=>?_;obtain ⟨h1,h2,h3,h4⟩:=h;refine hX ?_;clear hX
  have g:=Runs.pair h4
  exact ⟨h1,h2,h3.congr fun k a1 a2=>hk k (.inl (by lia)),Runs.join h4 hk hs⟩
theorem Runs.last:∀{l:List (Nat×Nat×Nat)}{b e n:Nat}{f:Nat×Nat×Nat→Nat×Nat×Nat},(∀r,(f r).1=r.1∧(f r).2.1=r.2.1)→Runs key xs b l e→Runs key xs b (l.modify n f) e
 | [],b,e,n,f,hf,h=>by simpa using h
 | r::l,b,e,0,f,hf,h=>by
  refine byC fun hX=>?_;obtain ⟨h1,h2,h3,h4⟩:=h;refine hX ?_;clear hX
  rw[List.modify_zero_cons]
  refine ⟨(hf r).1.trans h1,by rw[(hf r).2];exact h2,by rw[(hf r).2];exact h3,by rw[(hf r).2];exact h4⟩
 | r::l,b,e,n+1,f,hf,h=>by
  refine byC fun hX=>?_;obtain ⟨h1,h2,h3,h4⟩:=h;refine hX ?_;clear hX
  rw[List.modify_succ_cons]
  exact ⟨h1,h2,h3,Runs.last hf h4⟩
end
theorem Zib {p:Array (Nat×Nat×Nat)}{i:Nat}(h:i+1<p.size):∃r1 r2,p[i]?=some r1∧p[i+1]?=some r2∧p.toList=p.toList.take i++r1::r2::p.toList.drop (i+2) ∧
  ∀v,((p.setIfInBounds i v).eraseIdxIfInBounds (i+1)).toList=p.toList.take i++v::p.toList.drop (i+2):=by
 have hl:i+1<p.toList.length:=by simpa using h
 refine ⟨p[i],p[i+1],getElem?_pos p i (by exact ln2 [(.lt (.a .v0 .k1) .v1)] (.lt .v0 .v1) (.d 111) rfl h),getElem?_pos p (i+1) h,?_,fun v=>?_⟩
 ·have e1:p.toList.drop i=p[i]::p.toList.drop (i+1):=by rw[List.drop_eq_getElem_cons (by lia)];simp
  have e2:p.toList.drop (i+1)=p[i+1]::p.toList.drop (i+2):=by rw[List.drop_eq_getElem_cons hl];simp
  conv=>lhs;rw[← List.take_append_drop i p.toList]
  rw[e1,e2]
 ·have hs:i+1<(p.setIfInBounds i v).size:=by simpa using h
  simp only[Array.eraseIdxIfInBounds,hs,dif_pos]
  rw[Array.toList_eraseIdx,Array.toList_setIfInBounds]
  rw[List.eraseIdx_eq_take_drop_succ,List.take_set,List.drop_set_of_lt (by exact ln1 [] (.lt .v0 (.a (.a .v0 .k1) .k1)) (.d 11) rfl)]
  rw[List.take_add_one,List.getElem?_eq_getElem (by exact ln2 [(.lt (.a .v0 .k1) .v1)] (.lt .v0 .v1) (.d 111) rfl h)]
  simp only[Option.toList_some]
  rw[List.set_append_right _ _ (by simp;exact ln3 [(.mi .v0 .v1 .v2)] (.le .v0 .v1) (.s (.d 1101) (.d 1111)) rfl (Yc _ _))]
  simp only[List.length_take,Array.length_toList]
  rw[show i-min i p.size=0 by exact ln4 [(.lt (.a .v1 .k1) .v2),(.sb .v0 .v1 .v3),(.mi .v3 .v1 .v2)] (.eq .v0 .k0) (.s (.s (.s (.d 110101) (.d 110101)) (.s (.d 110001) (.d 110001))) (.s (.s (.d 110010001) (.d 1010001)) (.s (.d 11001) (.d 11001)))) rfl h (Zd _ _) (Yc _ _)]
  simp
section
variable {prog:Program}{w:World}{A:Around}{E:Value→Shared→Prop}{s:Shared}{a₀:Array Keyed}{κ:SortKind}{key:Keyed→T3}
theorem Zhf {st:SortSt}{i e:Nat}{Q:Bool→SortSt→Prop}(H:Wl prog w A E s κ a₀ key)(hA:SA a₀ κ st)(hR:Runs key (arrOf st) 0 (pendingOf st).toList e)(he:e≤a₀.size)(hi:i+1<(pendingOf st).size)
  (h:∀st',SA a₀ κ st'→Runs key (arrOf st') 0 (pendingOf st').toList e→(pendingOf st').size+1=(pendingOf st).size→(∀k:Nat,e≤k→(arrOf st')[k]?=(arrOf st)[k]?)→Q true st'):wpS (model prog w) A E s (mergeAt' i) Q st:=by
 refine byC fun hX=>?_;obtain ⟨⟨s1,n1,w1⟩,⟨s2,n2,w2⟩,h1,h2,hsp,hjoin⟩:=Zib hi;refine hX ?_;clear hX
 have hR0:=hR
 rw[hsp] at hR0
 refine byC fun hX=>?_;obtain ⟨g1,g2,g3,g4,g5,g6,g7⟩:=hR0.pair;refine hX ?_;clear hX
 dsimp only at g1 g2 g3 g4 g5 g6 g7
 refine Zhe H hA h1 h2 g4 g2 g3 (by exact ln4 [(.le .v3 .v2),(.le (.a .v0 .v1) .v3)] (.le (.a .v0 .v1) .v2) (.d 1111) rfl he g5) g6 g7 fun st' hA' hp hout hseg=>h st' hA' ?_ ?_ fun k hk=>hout k (.inr (by exact ln4 [(.le (.a .v0 .v1) .v3),(.le .v3 .v2)] (.le (.a .v0 .v1) .v2) (.d 1111) rfl g5 hk))
 ·rw[hp,hjoin]
  exact Runs.join (w:=w1) hR0 hout hseg
 ·have e1:=congrArg List.length (hjoin (s1,n1+n2,w1))
  have e2:=congrArg List.length hsp
  rw[hp]
  simp only[Array.length_toList,List.length_append,List.length_cons] at e1 e2
  lia
theorem Zs1 (c:Prop)[Decidable c](u:Nat):(if c then u-1 else u)≤u:=by split <;> lia
noncomputable def Q0 (lo n size:Nat):StateT SortSt Sem (ForInStep (Option Unit×Nat)):=do
 let st ← get
 match (pendingOf st).back? with
 | some (s1,n1,_)=>do
  let r ← forIn [0:size] ((none,()):Option Unit×Unit) fun u_ v_=>do
   let st ← get
   match (if (pendingOf st).size>1 then (pendingOf st)[(pendingOf st).size-2]? else none) with
   | some (_,_,older)=>
    if older≤power' size (2*s1+n1) (2*s1+n1+n1+n) size then pure (ForInStep.done (none,()))
    else do
     let b ← mergeAt' ((pendingOf st).size-2)
     if (!b)=true then pure (ForInStep.done (some (),())) else pure (ForInStep.yield (none,()))
   | _=>pure (ForInStep.done (none,()))
  match r.fst with
  | some r=>pure (ForInStep.done (some r,lo))
  | none=>do
   modify fun s=>setPending s ((pendingOf s).modify ((pendingOf s).size-1) fun x=>(x.fst,x.2.fst,power' size (2*s1+n1) (2*s1+n1+n1+n) size))
   modify fun s=>setPending s ((pendingOf s).push (lo,n,0))
   pure (ForInStep.yield (none,lo+n))
 | _=>do
  modify fun s=>setPending s ((pendingOf s).push (lo,n,0))
  pure (ForInStep.yield (none,lo+n))
theorem Zb4 {lo n:Nat}{st:SortSt}{Q:ForInStep (Option Unit×Nat)→SortSt→Prop}(H:Wl prog w A E s κ a₀ key)(hA:SA a₀ κ st)(hR:Runs key (arrOf st) 0 (pendingOf st).toList lo)(hn:1≤n)(hln:lo+n≤a₀.size)(hs:SegS key (arrOf st) lo (lo+n))
  (h:∀st',SA a₀ κ st'→Runs key (arrOf st') 0 (pendingOf st').toList (lo+n)→Q (.yield (none,lo+n)) st'):wpS (model prog w) A E s (Q0 lo n a₀.size) Q st:=by
 have fin:∀st':SortSt,SA a₀ κ st'→Runs key (arrOf st') 0 (pendingOf st').toList lo→SegS key (arrOf st') lo (lo+n)→Q (.yield (none,lo+n)) (setPending st' ((pendingOf st').push (lo,n,0))):=fun st' hA' hR' hs'=>
  h _ ⟨hA'.perm,hA'.kind,hA'.ok⟩ (by show Runs key (arrOf st') 0 ((pendingOf st').push (lo,n,0)).toList (lo+n);rw[Array.toList_push];exact hR'.snoc hn hs')
 unfold Q0
 refine wpS_bind (wpS_get ?_)
 cases hb:(pendingOf st).back? with
 | none=>exact wpS_bind (wpS_modify (wpS_pure (fin st hA hR hs)))
 | some r=>
  refine byC fun hX=>?_;obtain ⟨s1,n1,w1⟩:=r;refine hX ?_;clear hX
  refine wpS_bind (wpS_mono (wpS_forRange (I:=fun u_ c st'=>c=(none,())∧SA a₀ κ st'∧Runs key (arrOf st') 0 (pendingOf st').toList lo∧SegS key (arrOf st') lo (lo+n))
   (Q:=fun c st'=>c=(none,())∧SA a₀ κ st'∧Runs key (arrOf st') 0 (pendingOf st').toList lo∧SegS key (arrOf st') lo (lo+n)) ?step (fun u_ v_ hh=>hh) ⟨rfl,hA,hR,hs⟩) ?post)
  case post=>
   intro c st' hX2
   refine byC fun hnX=>?_
   obtain ⟨rfl,hA',hR',hs'⟩:=hX2
   refine hnX ?_
   clear hnX
   refine wpS_bind (wpS_modify (wpS_bind (wpS_modify (wpS_pure (fin _ ⟨hA'.perm,hA'.kind,hA'.ok⟩ ?_ hs')))))
   show Runs key (arrOf st') 0 ((pendingOf st').modify ((pendingOf st').size-1) _).toList lo
   rw[Array.toList_modify]
   exact Runs.last (fun u_=>⟨rfl,rfl⟩) hR'
  case step=>
   intro x c st' _ hx hX5
   refine byC fun hnX=>?_
   obtain ⟨rfl,hA',hR',hs'⟩:=hX5
   refine hnX ?_
   clear hnX
   refine wpS_bind (wpS_get ?_)
   by_cases hp:(pendingOf st').size>1
   ·rw[if_pos hp,getElem?_pos (pendingOf st') ((pendingOf st').size-2) (by exact ln2 [(.lt .k1 .v1),(.sb .v0 .v1 (.k 2))] (.lt .v0 .v1) (.s (.d 11001) (.d 11101)) rfl hp (Zd _ _))]
    dsimp only
    split
    ·exact wpS_pure ⟨rfl,hA',hR',hs'⟩
    ·refine wpS_bind (Zhf H hA' hR' (by exact ln3 [(.le (.a .v0 .v2) .v1)] (.le .v0 .v1) (.d 111) rfl hln) (by exact ln2 [(.lt .k1 .v1),(.sb .v0 .v1 (.k 2))] (.lt (.a .v0 .k1) .v1) (.s (.d 11001) (.d 11101)) rfl hp (Zd _ _)) fun st3 hA3 hR3 u_ hk3=>?_)
     exact wpS_pure ⟨rfl,hA3,hR3,hs'.congr fun k h1 u_=>hk3 k h1⟩
   ·rw[if_neg hp]
    exact wpS_pure ⟨rfl,hA',hR',hs'⟩
theorem Zjk {α β:Type}{m m':StateT SortSt Sem α}{f f':α→StateT SortSt Sem β}(h:m=m')(h':f=f'):(m >>= f)=(m' >>= f'):=by rw[h,h']
theorem Zef {α:Type}{m m':StateT SortSt Sem α}{Q:α→SortSt→Prop}{st:SortSt}(e:m=m')(h:wpS (model prog w) A E s m' Q st):wpS (model prog w) A E s m Q st:=e▸h
theorem Zmo {st:SortSt}{Q:Unit→SortSt→Prop}(H:Wl prog w A E s κ a₀ key)(hA:SA a₀ κ st)(hP:pendingOf st = #[])
  (h:∀st',SA a₀ κ st'→SegS key (arrOf st') 0 a₀.size→Q () st'):wpS (model prog w) A E s sortRuns' Q st:=by
 rw[sortRuns'_eq]
 refine wpS_bind (wpS_get ?_)
 dsimp only
 simp only[hA.size]
 refine wpS_bind (wpS_mono (wpS_forRange (I:=fun x c st'=>∃lo,c=(none,lo)∧SA a₀ κ st'∧Runs key (arrOf st') 0 (pendingOf st').toList lo∧lo≤a₀.size∧x≤lo)
  (Q:=fun c st'=>c=(none,a₀.size)∧SA a₀ κ st'∧Runs key (arrOf st') 0 (pendingOf st').toList a₀.size) ?step ?fin ⟨0,rfl,hA,by rw[hP];exact rfl,Nat.zero_le _,Nat.le_refl _⟩) ?post)
 case fin=>
  intro c st' hX2
  refine byC fun hnX=>?_
  obtain ⟨lo,rfl,hA',hR,hle,hx⟩:=hX2
  refine hnX ?_
  clear hnX
  have:lo=a₀.size:=by exact ln2 [(.le .v0 .v1),(.le .v1 .v0)] (.eq .v0 .v1) (.s (.d 1101) (.d 111)) rfl hle hx
  subst this
  exact ⟨rfl,hA',hR⟩
 case step=>
  intro x c st' _ hx hX5
  refine byC fun hnX=>?_
  obtain ⟨lo,rfl,hA',hR,hle,hxl⟩:=hX5
  refine hnX ?_
  clear hnX
  dsimp only
  by_cases hge:lo ≥ a₀.size
  ·rw[if_pos hge]
   have:lo=a₀.size:=by exact ln2 [(.le .v0 .v1),(.le .v1 .v0)] (.eq .v0 .v1) (.s (.d 1101) (.d 111)) rfl hle hge
   subst this
   exact wpS_pure ⟨rfl,hA',hR⟩
  ·rw[if_neg hge]
   refine wpS_bind (Zkz H (by exact ln3 [(.no (.le .v2 .v0)),(.sb .v1 .v2 .v0)] (.le (.a .v0 .v1) .v2) (.s (.d 11001) (.d 1011)) rfl hge (Zd _ _)) (by exact ln3 [(.no (.le .v1 .v2)),(.sb .v0 .v1 .v2)] (.le .k1 .v0) (.s (.d 111001) (.d 1011)) rfl hge (Zd _ _)) ⟨hA'.perm,hA'.kind,hA'.ok,rfl,fun u_ v_=>rfl⟩ fun n st2 hB u_ hn1 hn2 hs=>?_)
   dsimp only
   have hA2:SA a₀ κ st2:=⟨hB.perm,hB.kind,hB.ok⟩
   have hR2:Runs key (arrOf st2) 0 (pendingOf st2).toList lo:=by rw[hB.pend];exact hR.congr fun k u_ hk=>hB.out k (.inl hk)
   by_cases hmr:n<minRun' a₀.size a₀.size 0
   ·rw[if_pos hmr]
    refine wpS_bind (wpS_lift (wpAny_rule ⟨rfl,?_⟩))
    refine wpS_bind (Zh9 (st0:=st2) H (by exact ln5 [(.no (.le .v2 .v0)),(.mi .v1 .v3 .v4),(.sb .v3 .v2 .v0)] (.le (.a .v0 .v1) .v2) (.s (.s (.d 11001001) (.d 1010001)) (.s (.d 11011001) (.d 1010001))) rfl hge (Yc _ _) (Zd _ _)) (by exact ln4 [(.le .v0 .v2),(.lt .v0 .v3),(.mi .v1 .v2 .v3)] (.le .v0 .v1) (.s (.d 1110001) (.d 1101001)) rfl hn2 hmr (Yc _ _)) ⟨hA2.perm,hA2.kind,hA2.ok,rfl,fun u_ v_=>rfl⟩ hs fun st3 hB3 hs3 u_=>?_)
    simp only[Bool.not_true,Bool.false_eq_true,if_false]
    refine Zef (m':=Q0 lo (min (a₀.size-lo) (minRun' a₀.size a₀.size 0)) a₀.size) (by
     unfold Q0
     refine congrArg (get >>= ·) (funext fun st=>?_)
     cases (pendingOf st).back? with
     | none=>rfl
     | some r=>
      refine byC fun hX=>?_;obtain ⟨s1,n1,w1⟩:=r;refine hX ?_;clear hX
      refine Zjk ?_ (funext fun r=>?_)
      ·refine congrArg (forIn [0:a₀.size] ((none,()):Option Unit×Unit)) (funext fun x=>funext fun c=>congrArg (get >>= ·) (funext fun st=>?_))
       cases (if (pendingOf st).size>1 then (pendingOf st)[(pendingOf st).size-2]? else none) with
       | none=>rfl
       | some r=>rfl
      ·refine byC fun hX=>?_;obtain ⟨r,u⟩:=r;refine hX ?_;clear hX
       cases r <;> rfl) ?_
    refine Zb4 H ⟨hB3.perm,hB3.kind,hB3.ok⟩ (by rw[hB3.pend];exact hR2.congr fun k u_ hk=>hB3.out k (.inl hk)) (by exact ln4 [(.le .k1 .v1),(.le .v1 .v2),(.lt .v1 .v3),(.mi .v0 .v2 .v3)] (.le .k1 .v0) (.s (.d 11110001) (.d 11101001)) rfl hn1 hn2 hmr (Yc _ _)) (by exact ln5 [(.no (.le .v2 .v0)),(.mi .v1 .v3 .v4),(.sb .v3 .v2 .v0)] (.le (.a .v0 .v1) .v2) (.s (.s (.d 11001001) (.d 1010001)) (.s (.d 11011001) (.d 1010001))) rfl hge (Yc _ _) (Zd _ _)) hs3 fun st4 hA4 hR4=>⟨_,rfl,hA4,hR4,by exact ln5 [(.no (.le .v2 .v0)),(.mi .v1 .v3 .v4),(.sb .v3 .v2 .v0)] (.le (.a .v0 .v1) .v2) (.s (.s (.d 11001001) (.d 1010001)) (.s (.d 11011001) (.d 1010001))) rfl hge (Yc _ _) (Zd _ _),by exact ln6 [(.le .v0 .v1),(.le .k1 .v3),(.le .v3 .v4),(.lt .v3 .v5),(.mi .v2 .v4 .v5)] (.le (.a .v0 .k1) (.a .v1 .v2)) (.s (.d 111110001) (.d 111101001)) rfl hxl hn1 hn2 hmr (Yc _ _)⟩
   ·rw[if_neg hmr]
    refine Zef (m':=Q0 lo n a₀.size) (by
     unfold Q0
     refine congrArg (get >>= ·) (funext fun st=>?_)
     cases (pendingOf st).back? with
     | none=>rfl
     | some r=>
      refine byC fun hX=>?_;obtain ⟨s1,n1,w1⟩:=r;refine hX ?_;clear hX
      refine Zjk ?_ (funext fun r=>?_)
      ·refine congrArg (forIn [0:a₀.size] ((none,()):Option Unit×Unit)) (funext fun x=>funext fun c=>congrArg (get >>= ·) (funext fun st=>?_))
       cases (if (pendingOf st).size>1 then (pendingOf st)[(pendingOf st).size-2]? else none) with
       | none=>rfl
       | some r=>rfl
      ·refine byC fun hX=>?_;obtain ⟨r,u⟩:=r;refine hX ?_;clear hX
       cases r <;> rfl) ?_
    exact Zb4 H hA2 hR2 hn1 (by exact ln4 [(.no (.le .v2 .v0)),(.le .v1 .v3),(.sb .v3 .v2 .v0)] (.le (.a .v0 .v1) .v2) (.s (.d 110101) (.d 10101)) rfl hge hn2 (Zd _ _)) hs fun st4 hA4 hR4=>⟨_,rfl,hA4,hR4,by exact ln4 [(.no (.le .v2 .v0)),(.le .v1 .v3),(.sb .v3 .v2 .v0)] (.le (.a .v0 .v1) .v2) (.s (.d 110101) (.d 10101)) rfl hge hn2 (Zd _ _),by exact ln3 [(.le .v0 .v1),(.le .k1 .v2)] (.le (.a .v0 .k1) (.a .v1 .v2)) (.d 1111) rfl hxl hn1⟩
 case post=>
  intro c st' hX2
  refine byC fun hnX=>?_
  obtain ⟨rfl,hA',hR⟩:=hX2
  refine hnX ?_
  clear hnX
  dsimp only
  have hle:=hR.le
  refine wpS_bind (wpS_mono (wpS_forRange (I:=fun x c st''=>c=(none,())∧SA a₀ κ st''∧Runs key (arrOf st'') 0 (pendingOf st'').toList a₀.size∧(pendingOf st'').size≤max 1 (a₀.size-x))
   (Q:=fun c st''=>c=(none,())∧SA a₀ κ st''∧Runs key (arrOf st'') 0 (pendingOf st'').toList a₀.size∧(pendingOf st'').size≤1) ?_ ?_ ⟨rfl,hA',hR,by simp only[Array.length_toList] at hle;exact ln3 [(.le (.a .k0 .v0) .v2),(.mx .v1 .k1 .v2)] (.le .v0 .v1) (.s (.d 111001) (.d 111101)) rfl hle (Qg _ _)⟩) ?_)
  ·intro x c st'' _ hx hX5
   refine byC fun hnX=>?_
   obtain ⟨rfl,hA2,hR2,hsz⟩:=hX5
   refine hnX ?_
   clear hnX
   refine wpS_bind (wpS_get ?_)
   by_cases hp:(pendingOf st'').size≤1
   ·rw[if_pos hp];exact wpS_pure ⟨rfl,hA2,hR2,hp⟩
   ·rw[if_neg hp]
    refine wpS_bind (Zhf H hA2 hR2 (Nat.le_refl _) (Nat.lt_of_le_of_lt (Nat.succ_le_succ (Zs1 _ _)) (by exact ln2 [(.no (.le .v1 .k1)),(.sb .v0 .v1 (.k 2))] (.lt (.a .v0 .k1) .v1) (.s (.d 11001) (.d 11101)) rfl hp (Zd _ _))) fun st3 hA3 hR3 hs3 u_=>?_)
    simp only[Bool.not_true,Bool.false_eq_true,if_false]
    exact wpS_pure ⟨rfl,hA3,hR3,by lia⟩
  ·intro c st'' hX2
   refine byC fun hnX=>?_
   obtain ⟨rfl,hA2,hR2,hsz⟩:=hX2
   refine hnX ?_
   clear hnX
   exact ⟨rfl,hA2,hR2,by exact ln4 [(.le .v0 .v1),(.mx .v1 .k1 .v2),(.sb .v2 .v3 .v3)] (.le .v0 .k1) (.s (.s (.d 10010001) (.d 10010001)) (.s (.d 11101) (.d 11101))) rfl hsz (Qg _ _) (Zd _ _)⟩
  ·intro c st'' hX2
   refine byC fun hnX=>?_
   obtain ⟨rfl,hA2,hR2,hsz⟩:=hX2
   refine hnX ?_
   clear hnX
   refine wpS_pure (h st'' hA2 ?_)
   have hl:(pendingOf st'').toList.length≤1:=by simpa using hsz
   generalize (pendingOf st'').toList=l at hR2 hl
   cases l with
   | nil=>
    have h0:0=a₀.size:=hR2
    intro p q _ _ hq;lia
   | cons r l=>
    cases l with
    | nil=>
     refine byC fun hX=>?_;obtain ⟨_,_,g3,g4⟩:=hR2;refine hX ?_;clear hX
     have g4:0+r.2.1=a₀.size:=g4
     rw[g4] at g3;exact g3
    | cons _ _=>simp at hl
end
section
variable {prog:Program}{w:World}{A:Around}{E:Value→Shared→Prop}{s:Shared}{κ:SortKind}{key:Keyed→T3}
noncomputable def Jk (h : Heap) (a : Addr) (vs : List Value) : Heap := ((h.update a (Obj.mapSeq fun u_ => #[])).push (seqObj "tuple" vs.toArray 0)).push (seqObj "list" #[] 0)
theorem Zdv {a : Addr} {vs : List Value} {n : Nat} {P : PySem.Fin → Shared → Prop} (ho : s.heap.get? a = some (seqObj "list" vs.toArray n)) (hlen : vs.length ≤ sizeLine)
  (hkk:2≤vs.length→∀Q:SortKind→Shared→Prop,Q κ { s with heap:=Jk s.heap a vs }→wpAny (model prog w) A (keyKind' vs.toArray) Q E { s with heap:=Jk s.heap a vs })
  (H:Wl prog w A E { s with heap:=Jk s.heap a vs } κ (pairsOf vs) key)
  (h:∀r:Array Keyed,r.Perm (pairsOf vs)→SegS key r 0 (pairsOf vs).size→P (.done (.ret .none)) { s with heap:=sortedHeap s.heap a vs (r.map (·.2)) }) :
  wpAny (model prog w) A (Builtin.«list.sort» ⟨[.ref a],[]⟩) P E s:=by
 rw[list_sort_plain]
 have ha:a<s.heap.objs.size:=Heap.lt_size ho
 refine wpAny_bind (listItems_at ho rfl ?_)
 refine wpAny_bind (listUpdate_at ho rfl ?_ (by simpa using hlen) (Nat.zero_le _))
 obtain ⟨e1, ho1⟩ : ∃ e1, (s.heap.update a (Obj.mapSeq fun u_ => #[])).get? a = some (seqObj "list" #[] e1) := ⟨_, get?_update_seq ho (fun u_ => #[])⟩
 refine wpAny_bind (seqEpoch_at ho1 rfl ?_)
 refine wpAny_bind (wpAny_newTuple ?_ (by simpa using hlen))
 refine wpAny_bind (wpAny_newList ?_ (Nat.zero_le _))
 refine wpAny_holding ?_
 have ho6 : (Jk s.heap a vs).get? a = some (seqObj "list" #[] e1) := by
  unfold Jk
  rw[Heap.get?_push_ne _ _ _ (by rw[size_push',Heap.size_update];exact Nat.ne_of_lt (Nat.lt_succ_of_lt ha)),Heap.get?_push_ne _ _ _ (by rw[Heap.size_update];exact Nat.ne_of_lt ha)]
  exact ho1
 show wpAny (model prog w) A _ P E { s with heap:=Jk s.heap a vs }
 dsimp only
 have hsz:vs.toArray.size=vs.length:=by simp
 have hout:∀r:Array Keyed,r.Perm (pairsOf vs)→(r.map (·.2)).size≤sizeLine+1:=fun r hp=>by
  rw[Array.size_map,hp.size_eq,pairsOf_size];lia
 by_cases h2:vs.toArray.size<2
 ·rw[if_pos h2,if_pos h2]
  refine wpAny_bind (wpAny_pure ?_)
  rw[StateT.run_pure]
  refine wpAny_bind (wpAny_pure ?_)
  dsimp only
  refine wpAny_bind (seqEpoch_at ho6 rfl ?_)
  refine wpAny_bind (listUpdate_at ho6 rfl ?_ (Nat.zero_le _) (hout (pairsOf vs) (Array.Perm.refl _)))
  simp only[bne_self_eq_false,Bool.false_eq_true,if_false]
  refine wpAny_pure (h (pairsOf vs) (Array.Perm.refl _) fun i j u_ hij hj=>?_)
  have:i=j:=by rw[pairsOf_size] at hj;lia
  subst this;exact Ui _
 ·rw[if_neg h2,if_neg h2]
  refine wpAny_bind (hkk (by lia) _ ?_)
  refine wpAny_bind (wpAny_mono (Zmo (a₀:=pairsOf vs) (st:=SortSt.mk' κ (vs.toArray.zip vs.toArray) #[] 7 none)
   (Q:=fun u_ st'=>SA (pairsOf vs) κ st'∧SegS key (arrOf st') 0 (pairsOf vs).size) H ⟨Array.Perm.refl _,rfl,rfl⟩ rfl fun st' a1 a2=>⟨a1,a2⟩) ?_ fun u_ v_ e=>e)
  intro hX0 s' hX2
  refine byC fun hnX=>?_
  obtain ⟨⟨⟩,st'⟩:=hX0
  obtain ⟨rfl,hA,hs⟩:=hX2
  refine hnX ?_
  clear hnX
  dsimp only
  refine wpAny_bind (seqEpoch_at ho6 rfl ?_)
  refine wpAny_bind (listUpdate_at ho6 rfl ?_ (Nat.zero_le _) (hout _ hA.perm))
  rw[hA.ok]
  simp only[bne_self_eq_false,Bool.false_eq_true,if_false]
  exact wpAny_pure (h (arrOf st') hA.perm hs)
noncomputable def Ys (h : Heap) (vs : List Value) : Heap := ((h.push (seqObj "list" #[] 0)).update h.objs.size (Obj.mapSeq (· ++ vs.toArray))).push (seqObj "list" vs.toArray 0)
theorem Zmp {vs:List Value}{b:Addr}{o:Obj}(q:h.get? b=some o):(Ys h vs).get? b=some o:=by
 have hlt:b<h.objs.size:=Heap.lt_size q
 have hsz : ((h.push (seqObj "list" #[] 0)).update h.objs.size (Obj.mapSeq (· ++ vs.toArray))).objs.size = h.objs.size + 1 := by rw [Heap.size_update, size_push']
 unfold Ys
 rw[Heap.get?_push_ne _ _ _ (by rw[hsz];exact Nat.ne_of_lt (Nat.lt_succ_of_lt hlt)),Heap.get?_update_ne _ _ _ _ (Nat.ne_of_lt hlt),Heap.get?_push_ne _ _ _ (Nat.ne_of_lt hlt)]
 exact q
theorem Za9 {vs:List Value}{b:Addr}{o:Obj}(q:h.get? b=some o):(Jk (Ys h vs) (h.objs.size+1) vs).get? b=some o:=by
 have hlt:b<h.objs.size:=Heap.lt_size q
 unfold Jk
 refine Heap.get?_push_of_some _ (Heap.get?_push_of_some _ ?_)
 rw[Heap.get?_update_ne _ _ _ _ (Nat.ne_of_lt (Nat.lt_succ_of_lt hlt))]
 exact Zmp q
theorem Zic {l:Addr}{vs:List Value}{Q:Value→Shared→Prop}(hl:s.heap.IsList l vs.toArray)(hlen:vs.length≤sizeLine)
  (hkk:2≤vs.length→∀Q:SortKind→Shared→Prop,Q κ { s with heap:=Jk (Ys s.heap vs) (s.heap.objs.size+1) vs }→wpAny (model prog w) A.in1.in1 (keyKind' vs.toArray) Q E { s with heap:=Jk (Ys s.heap vs) (s.heap.objs.size+1) vs })
  (H:Wl prog w A.in1.in1 E { s with heap:=Jk (Ys s.heap vs) (s.heap.objs.size+1) vs } κ (pairsOf vs) key)
  (h:∀r:Array Keyed,r.Perm (pairsOf vs)→SegS key r 0 (pairsOf vs).size→Q (.ref (s.heap.objs.size+1)) { s with heap:=sortedHeap (Ys s.heap vs) (s.heap.objs.size+1) vs (r.map (·.2)) }) :
  wpAny (model prog w) A (call (.builtin "sorted") [.ref l]) Q E s := by
 refine Calls.call_function_entry kind_sorted plain_sorted entry_sorted (args_sorted1 _) ?_
 unfold Builtin.«sorted»
 refine wpAny_bind (m := checkCount "sorted" 1 1 _) (wpAny_pure ?_)
 refine wpAny_bind (collect_list hl ?_ hlen)
 refine wpAny_bind (wpAny_newList ?_ hlen)
 have hsz : ((s.heap.push (seqObj "list" #[] 0)).update s.heap.objs.size (Obj.mapSeq (· ++ vs.toArray))).objs.size = s.heap.objs.size + 1 := by
  rw[Heap.size_update,size_push']
 have hoL : (Ys s.heap vs).get? (s.heap.objs.size + 1) = some (seqObj "list" vs.toArray 0) := by
  unfold Ys;rw[← hsz];exact Heap.get?_push_size _ rfl
 show wpAny _ _ _ _ _ { s with heap:=Ys s.heap vs }
 rw[hsz]
 refine wpAny_bind (wpAny_holding (wpAny_call_entry slot_list_sort ⟨_,hoL,rfl⟩ entry_list_sort (Zdv (s:={ s with heap:=Ys s.heap vs }) hoL hlen hkk H fun r a1 a2=>⟨_,rfl,?_⟩) (args_list_sort _)))
 exact wpAny_pure ⟨_,rfl,h r a1 a2⟩
end
end Mini.Internal
namespace Mini.Internal
open PySem PyProof.Rows PySem.W
variable {ρ ρ' ρ1:List Addr}{σ σ' σ1:H}{s s' s1:Shared}{h h':Heap}{ℓ ℓ':L}
noncomputable def Zs2:Option Value→Int
 | some (.int n _)=>n
 | _=>0
noncomputable def Zao:PySem.Data→T3
 | .seq xs _=>⟨Zs2 xs[0]?,Zs2 xs[1]?,Zs2 xs[2]?⟩
 | _=>default
noncomputable def kOf (h:Heap):Value→T3
 | .int n _=>⟨n,0,0⟩
 | .ref a=>((h.get? a).map fun o=>Zao o.data).getD default
 | _=>default
section
variable {prog:Program}{w:World}{A:Around}{E:Value→Shared→Prop}{s:Shared}
theorem Zb5 {x y:Keyed}{b:Bool}{κ:SortKind}(h:∀(E':Value→Shared→Prop) (Q:Bool→Shared→Prop),Q b s→wpAny (model prog w) A (keyLt' κ x.1 y.1) Q E' s){st:SortSt}{Q:Option Bool→SortSt→Prop}(hk:kindOf st=κ)(hq:Q (some b) st):wpS (model prog w) A E s (lt' x y) Q st:=by
 rw[lt'_eq]
 refine wpS_bind (wpS_get ?_)
 rw[hk]
 refine wpS_bind (wpS_lift (wpAny_attempt (h _ _ ⟨rfl,?_⟩)))
 exact wpS_pure hq
theorem Zba (x y:T3)(b:Bool)(h:b=true↔(x.a<y.a∨(x.a=y.a∧(x.b<y.b∨(x.b=y.b∧x.c<y.c))))):(!T3.le y x)=b:=by
 rw[Bool.eq_iff_iff,h,Bool.not_eq_true',← Bool.not_eq_true,X0];omega
theorem Zug {vs:List Value}(hv:∀v∈vs,∃n t,v=.int n t)(hp:Heap):Wl prog w A E s oneType' (pairsOf vs) (fun p=>kOf hp p.1):=by
 intro x y hx hy st Q hk hq
 rw[pairsOf_toList] at hx hy
 refine byC fun hX=>?_;obtain ⟨n,t,ex⟩:=hv x.1 (List.of_mem_zip hx).1;refine hX ?_;clear hX
 refine byC fun hX=>?_;obtain ⟨m,u,ey⟩:=hv y.1 (List.of_mem_zip hy).1;refine hX ?_;clear hX
 refine Zb5 (b:=decide (n<m)) (fun E' Q' hq'=>?_) hk ?_
 ·rw[ex,ey,keyLt'_oneType];exact oneLt_int hq'
 ·have : (!T3.le (kOf hp y.1) (kOf hp x.1)) = decide (n < m) := by
   rw[ex,ey];refine Zba _ _ _ ?_;simp only[kOf,decide_eq_true_eq];omega
  rw[this] at hq;exact hq
theorem Zuh {vs:List Value}(hv:∀v∈vs,∃a n0 n1 n2 t0 t1 t2,v=.ref a∧s.heap.get? a=some (Zz [.int n0 t0,.int n1 t1,.int n2 t2])):Wl prog w A E s (tuples' true) (pairsOf vs) (fun p=>kOf s.heap p.1):=by
 intro x y hx hy st Q hk hq
 rw[pairsOf_toList] at hx hy
 refine byC fun hX=>?_;obtain ⟨a,n0,n1,n2,t0,t1,t2,ex,gx⟩:=hv x.1 (List.of_mem_zip hx).1;refine hX ?_;clear hX
 refine byC fun hX=>?_;obtain ⟨b,m0,m1,m2,u0,u1,u2,ey,gy⟩:=hv y.1 (List.of_mem_zip hy).1;refine hX ?_;clear hX
 have kx:kOf s.heap x.1=⟨n0,n1,n2⟩:=by rw[ex];show ((s.heap.get? a).map fun o=>Zao o.data).getD default=_;rw[gx];rfl
 have ky:kOf s.heap y.1=⟨m0,m1,m2⟩:=by rw[ey];show ((s.heap.get? b).map fun o=>Zao o.data).getD default=_;rw[gy];rfl
 dsimp only at hq
 rw[kx,ky] at hq
 refine Zb5 (b:=!T3.le ⟨m0,m1,m2⟩ ⟨n0,n1,n2⟩) (fun E' Q' hq'=>?_) hk hq
 rw[ex,ey]
 refine kat_lt gx rfl gy rfl ?_
 show KatLex prog w A true false Q' [(.int n0 t0,.int m0 u0),(.int n1 t1,.int m1 u1),(.int n2 t2,.int m2 u2)] 0 s
 refine kat_cons (wpAny_eqBool_int ?_)
 refine kat_go (fun h0=>kat_yes (kat_cons (wpAny_eqBool_int ?_))) (fun h0=>kat_no (oneLt_int ?_))
 ·have h0:n0=m0:=eq_of_beq h0
  refine kat_go (fun h1=>kat_yes (kat_cons (wpAny_eqBool_int ?_))) (fun h1=>kat_no (kat_one _ _ (lt_int ?_)))
  ·have h1:n1=m1:=eq_of_beq h1
   refine kat_go (fun h2=>kat_yes (kat_nil ?_)) (fun h2=>kat_no (kat_one _ _ (lt_int ?_)))
   ·have h2:n2=m2:=eq_of_beq h2
    rw[Zba _ _ false (by simp only;simp;omega)] at hq';exact hq'
   ·have h2:n2≠m2:=by intro h;simp[h] at h2
    rw[Zba _ _ (decide (n2<m2)) (by simp only[decide_eq_true_eq];omega)] at hq';exact hq'
  ·have h1:n1≠m1:=by intro h;simp[h] at h1
   rw[Zba _ _ (decide (n1<m1)) (by simp only[decide_eq_true_eq];omega)] at hq';exact hq'
 ·have h0:n0≠m0:=by intro h;simp[h] at h0
  rw[Zba _ _ (decide (n0<m0)) (by simp only[decide_eq_true_eq];omega)] at hq';exact hq'
end
section
variable {K:Kx}{A:Around}
theorem RVs.of_all {f:Value→V}:∀{ws:List Value},(∀w∈ws,RV K ρ h (f w) w)→RVs K ρ h (ws.map f) ws
 | [],_=>.nil
 | w::r,hw=>.cons (hw w List.mem_cons_self) (RVs.of_all fun x hx=>hw x (List.mem_cons_of_mem _ hx))
theorem Zde:∀{l:List V}{is:List Int},Ue l=some is→l=is.map V.int
 | [],is,h=>by cases h;rfl
 | v::r,is,h=>by
  cases v with
  | int i=>
   refine byC fun hX=>?_;obtain ⟨js,hj,rfl⟩:=Option.map_eq_some_iff.mp (show (Ue r).map (i::·)=some is from h);refine hX ?_;clear hX
   rw[Zde hj];rfl
  | _=>cases h
theorem Zmq {l:List V}{p:V×V×V}(h:Ztz l=some p):l=[p.1,p.2.1,p.2.2]:=by
 cases l with
 | nil=>cases h
 | cons a r=>
  refine byC fun hX=>?_;obtain ⟨q,hq,rfl⟩:=Option.map_eq_some_iff.mp (show (Zhx r).map _=some p from h);refine hX ?_;clear hX
  rw[Zf9 hq]
theorem Zmr {v:V}{t:T3}(h:Zoe v=some t):v=t.v:=by
 refine Zw (h) fun l h1 h=>?_
 refine Zw (h) fun p h2 h=>?_
 refine Zw (h) fun a h3 h=>?_
 refine Zw (h) fun b h4 h=>?_
 refine byC fun hX=>?_;obtain ⟨c,h5,rfl⟩:=Option.map_eq_some_iff.mp h;refine hX ?_;clear hX
 rw[Zbg h1,Zmq h2,Y9 h3,Y9 h4,Y9 h5];rfl
theorem Zjl:∀{l:List V}{ts:List T3},t3s l=some ts→l=ts.map T3.v
 | [],ts,h=>by cases h;rfl
 | v::r,ts,h=>by
  refine Zw ((show (Zoe v).bind _=some ts from h)) fun t h1 h2=>?_
  refine byC fun hX=>?_;obtain ⟨us,hu,rfl⟩:=Option.map_eq_some_iff.mp h2;refine hX ?_;clear hX
  rw[Zjl hu,Zmr h1];rfl
theorem Zms {ws:List Value}{hp:Heap}{r:Array Keyed}(h1:r.Perm (pairsOf ws))(h2:SegS (fun p=>kOf hp p.1) r 0 (pairsOf ws).size) :
  (r.map (·.2)).toList.Perm ws∧((r.map (·.2)).toList.map (kOf hp)).Pairwise (fun x y=>T3.le x y=true):=by
 have hp1:r.toList.Perm (ws.zip ws):=by rw[← pairsOf_toList];exact Array.perm_iff_toList_perm.mp h1
 have e1:(ws.zip ws).map (·.2)=ws:=by rw[List.map_snd_zip];exact Nat.le_refl _
 have hm:=hp1.map (·.2)
 rw[e1] at hm
 have hsame:∀p∈r.toList,p.1=p.2:=by
  intro p hpm
  have:=hp1.mem_iff.mp hpm
  refine byC fun hX=>?_;obtain ⟨i,hi,rfl⟩:=List.getElem_of_mem this;refine hX ?_;clear hX
  simp
 rw[Array.toList_map]
 refine ⟨hm,?_⟩
 have e2:(r.toList.map (·.2)).map (kOf hp)=r.toList.map fun p=>kOf hp p.1:=by
  rw[List.map_map]
  exact List.map_congr_left fun p hpm=>by simp only[Function.comp];rw[hsame p hpm]
 rw[e2,List.pairwise_iff_getElem]
 intro i j hi hj hij
 simp only[List.length_map,Array.length_toList] at hi hj
 have hsz:(pairsOf ws).size=r.size:=h1.size_eq.symm
 have:=h2 i j (Nat.zero_le _) (Nat.le_of_lt hij) (by exact ln3 [(.lt .v0 .v2),(.eq .v1 .v2)] (.lt .v0 .v1) (.d 11101) rfl hj hsz)
 rw[Yq hi,Yq hj] at this
 simpa using this
theorem Zs3 (h:Heap)(ws out:List Value):∃n,(sortedHeap (Ys h ws) (h.objs.size+1) ws out.toArray).get? (h.objs.size+1)=some (Yd out n):=by
 have hsz : ((h.push (seqObj "list" #[] 0)).update h.objs.size (Obj.mapSeq (· ++ ws.toArray))).objs.size = h.objs.size + 1 := by
  rw[Heap.size_update,size_push']
 have hoL : (Ys h ws).get? (h.objs.size + 1) = some (seqObj "list" ws.toArray 0) := by
  unfold Ys;rw[← hsz];exact Heap.get?_push_size _ rfl
 have h1:=get?_update_seq hoL (fun u_=>#[])
 obtain ⟨e1, h1⟩ : ∃ e1, ((Ys h ws).update (h.objs.size + 1) (Obj.mapSeq fun u_ => #[])).get? (h.objs.size + 1) = some (seqObj "list" #[] e1) := ⟨_, h1⟩
 have h2 := Heap.get?_push_of_some (seqObj "list" #[] 0) (Heap.get?_push_of_some (seqObj "tuple" ws.toArray 0) h1)
 have h3:=get?_update_seq h2 (fun u_=>out.toArray)
 exact ⟨_,h3⟩
theorem Zpo {ws:List Value}{out:Array Value}{b:Addr}{o:Obj}(q:h.get? b=some o):(sortedHeap (Ys h ws) (h.objs.size+1) ws out).get? b=some o:=by
 have hlt:b<h.objs.size:=Heap.lt_size q
 have:=Za9 (vs:=ws) q
 unfold sortedHeap
 rw[Heap.get?_update_ne _ _ _ _ (Nat.ne_of_lt (Nat.lt_succ_of_lt hlt))]
 exact this
theorem Zeg {a:Addr}{ws:List Value}{n:Nat}{l l':List V}(hr:HR K ρ σ s.heap)(ho:s.heap.get? a=some (Yd ws n))(rv:RVs K ρ s.heap l ws)(hl:l.length≤Zl)(hl':l'.length≤Zl){κ:SortKind}{f:Value→V}
  (hkk:2≤ws.length→∀s':Shared,(∀b o,s.heap.get? b=some o→s'.heap.get? b=some o)→∀(Q:SortKind→Shared→Prop) (E:Value→Shared→Prop),Q κ s'→wpAny K.M A.in1.in1 (keyKind' ws.toArray) Q E s')
  (H:∀s':Shared,(∀b o,s.heap.get? b=some o→s'.heap.get? b=some o)→∀E,Wl K.prog K.w A.in1.in1 E s' κ (pairsOf ws) (fun p=>kOf s'.heap p.1))
  (hf:∀w∈ws,RV K ρ s.heap (f w) w)
  (hout:∀(hp:Heap) (out:List Value),(∀b o,s.heap.get? b=some o→hp.get? b=some o)→out.Perm ws→(out.map (kOf hp)).Pairwise (fun x y=>T3.le x y=true)→out.map f=l') :
  TR K A (call (.builtin "sorted") [.ref a]) ρ s (σ ++ [.list l']) fun ρ' cv s' => RV K ρ' s'.heap (.obj σ.length) cv := by
 refine Zic (κ:=κ) (key:=fun p=>kOf (Jk (Ys s.heap ws) (s.heap.objs.size+1) ws) p.1) ⟨_,ho,rfl,n,rfl⟩ (Ug rv hl) (fun h2 Q hq=>hkk h2 { s with heap:=Jk (Ys s.heap ws) (s.heap.objs.size+1) ws } (fun b o (e:s.heap.get? b=some o)=>Za9 (vs:=ws) e) Q _ hq) (H { s with heap:=Jk (Ys s.heap ws) (s.heap.objs.size+1) ws } (fun b o e=>Za9 (vs:=ws) e) _) fun r h1 h2=>?_
 refine byC fun hX=>?_;obtain ⟨p1,p2⟩:=Zms h1 h2;refine hX ?_;clear hX
 have e:=hout _ _ (fun b o e=>Za9 (vs:=ws) e) p1 p2
 refine byC fun hX=>?_;obtain ⟨m,hm⟩:=Zs3 s.heap ws (r.map (·.2)).toList;refine hX ?_;clear hX
 rw[Array.toArray_toList] at hm
 have hk:∀b o,s.heap.get? b=some o→(sortedHeap (Ys s.heap ws) (s.heap.objs.size+1) ws (r.map (·.2))).get? b=some o:=fun b o q=>Zpo q
 have hnone:s.heap.get? (s.heap.objs.size+1)=none:=by
  cases hg:s.heap.get? (s.heap.objs.size+1) with
  | none=>rfl
  | some o=>exact absurd (Heap.lt_size hg) (Nat.not_lt.mpr (Nat.le_succ _))
 have hrv:RVs K ρ s.heap l' (r.map (·.2)).toList:=by
  rw[← e];exact RVs.of_all fun w hw=>hf w (p1.mem_iff.mp hw)
 refine ⟨ρ++[s.heap.objs.size+1],Good.alloc (o:=.list l') hr hk hnone ⟨_,m,hm,hrv.mono (List.prefix_append _ _) (fun a vs q=>hk _ _ q),hl'⟩ s.toks,.obj ?_⟩
 rw[List.getElem?_append_right (by rw[hr.len];exact Nat.le_refl _),hr.len];simp
theorem Zfo {i:Int}{w:Value}(r:RV K ρ h (.int i) w):∃t,w=.int i t:=by
 cases r with
 | int _ t=>exact ⟨t,rfl⟩
theorem Zbb {v:V}{l:List V}{ws:List Value}(r:RVs K ρ h (v::l) ws):∃w wr,ws=w::wr∧RV K ρ h v w∧RVs K ρ h l wr:=by
 cases r with
 | cons a b=>exact ⟨_,_,rfl,a,b⟩
theorem Zid {ws:List Value}(r:RVs K ρ h [] ws):ws=[]:=by
 cases r with
 | nil=>rfl
theorem Zjm :∀{is:List Int}{ws:List Value},RVs K ρ h (is.map V.int) ws→(∀w∈ws,∃n t,w=.int n t)∧∀hp,(ws.map (kOf hp)).map (·.a)=is
 | [],ws,r=>by rw[Zid r];exact ⟨fun u_ h=>(nomatch h),fun u_=>rfl⟩
 | i::is,ws,r=>by
  refine byC fun hX=>?_;obtain ⟨w,wr,rfl,r0,rs⟩:=Zbb r;refine hX ?_;clear hX
  refine byC fun hX=>?_;obtain ⟨t,rfl⟩:=Zfo r0;refine hX ?_;clear hX
  refine byC fun hX=>?_;obtain ⟨h1,h2⟩:=Zjm rs;refine hX ?_;clear hX
  refine ⟨fun w hw=>?_,fun hp=>?_⟩
  ·rcases List.mem_cons.mp hw with rfl | hw
   ·exact ⟨i,t,rfl⟩
   ·exact h1 w hw
  ·rw[List.map_cons,List.map_cons,h2 hp];rfl
theorem Zs4 {l:List V}{w:Value}(r:RV K ρ h (.tup l) w):∃a vs,w=.ref a∧h.get? a=some (Zz vs)∧RVs K ρ h l vs:=by
 cases r with
 | tup e rs hl=>exact ⟨_,_,rfl,e,rs⟩
theorem Zmt {t:T3}{w:Value}(r:RV K ρ h t.v w):∃a t0 t1 t2,w=.ref a∧h.get? a=some (Zz [.int t.a t0,.int t.b t1,.int t.c t2]):=by
 refine byC fun hX=>?_;obtain ⟨a,vs,rfl,e,q0⟩:=Zs4 r;refine hX ?_;clear hX
 refine byC fun hX=>?_;obtain ⟨w0,y0,rfl,r0,q1⟩:=Zbb q0;refine hX ?_;clear hX
 refine byC fun hX=>?_;obtain ⟨w1,y1,rfl,r1,q2⟩:=Zbb q1;refine hX ?_;clear hX
 refine byC fun hX=>?_;obtain ⟨w2,y2,rfl,r2,q3⟩:=Zbb q2;refine hX ?_;clear hX
 refine byC fun hX=>?_;obtain ⟨t0,rfl⟩:=Zfo r0;refine hX ?_;clear hX
 refine byC fun hX=>?_;obtain ⟨t1,rfl⟩:=Zfo r1;refine hX ?_;clear hX
 refine byC fun hX=>?_;obtain ⟨t2,rfl⟩:=Zfo r2;refine hX ?_;clear hX
 have e0:=Zid q3
 subst e0
 exact ⟨a,t0,t1,t2,rfl,e⟩
theorem Zjn :∀{ts:List T3}{ws:List Value},RVs K ρ h (ts.map T3.v) ws→(∀w∈ws,∃a n0 n1 n2 t0 t1 t2,w=.ref a∧h.get? a=some (Zz [.int n0 t0,.int n1 t1,.int n2 t2]))∧∀hp:Heap,(∀b o,h.get? b=some o→hp.get? b=some o)→ws.map (kOf hp)=ts
 | [],ws,r=>by rw[Zid r];exact ⟨fun u_ h=>(nomatch h),fun u_ v_=>rfl⟩
 | t::ts,ws,r=>by
  refine byC fun hX=>?_;obtain ⟨w,wr,rfl,r0,rs⟩:=Zbb r;refine hX ?_;clear hX
  refine byC fun hX=>?_;obtain ⟨h1,h2⟩:=Zjn rs;refine hX ?_;clear hX
  refine byC fun hX=>?_;obtain ⟨a,t0,t1,t2,rfl,e⟩:=Zmt r0;refine hX ?_;clear hX
  refine ⟨fun w hw=>?_,fun hp hk=>?_⟩
  ·rcases List.mem_cons.mp hw with rfl | hw
   ·exact ⟨a,_,_,_,t0,t1,t2,rfl,e⟩
   ·exact h1 w hw
  ·rw[List.map_cons,h2 hp hk]
   have:kOf hp (.ref a)=t:=by
    show ((hp.get? a).map fun o=>Zao o.data).getD default=_
    rw[hk _ _ e];rfl
   rw[this]
theorem Zmu :∀{ws:List Value},(∀w∈ws,∃a n0 n1 n2 t0 t1 t2,w=.ref a∧h.get? a=some (Zz [.int n0 t0,.int n1 t1,.int n2 t2]))→∃fs:List Value,KatTups h ws fs∧fs.length=ws.length∧∀v∈fs,∃n t,v=.int n t
 | [],_=>⟨[],.nil,rfl,fun u_ h=>(nomatch h)⟩
 | w::r,hw=>by
  refine byC fun hX=>?_;obtain ⟨fs,h1,h2,h3⟩:=Zmu fun x hx=>hw x (List.mem_cons_of_mem _ hx);refine hX ?_;clear hX
  refine byC fun hX=>?_;obtain ⟨a,n0,n1,n2,t0,t1,t2,rfl,e⟩:=hw w List.mem_cons_self;refine hX ?_;clear hX
  refine ⟨.int n0 t0::fs,.cons e rfl rfl rfl h1,by simp[h2],fun v hv=>?_⟩
  rcases List.mem_cons.mp hv with rfl | hv
  ·exact ⟨_,_,rfl⟩
  ·exact h3 v hv
theorem sort_ok:Zfc K A:=by
 intro σ σ' vs v h ρ s cas hr rvs
 refine Zw (h) fun v0 h0 h=>?_
 refine Zw (h) fun l' h1 h=>?_
 refine Zw (h1) fun l hl h1=>?_
 refine byC fun hX=>?_;obtain ⟨hl',e1,e2⟩:=Uu h;refine hX ?_;clear hX
 subst e1 e2
 rw[Zau h0] at rvs
 cases rvs with
 | cons r0 rs=>
  cases rs
  refine byC fun hX=>?_;obtain ⟨a,ws,n,rfl,ho,rv,hll⟩:=Yw hr hl r0;refine hX ?_;clear hX
  show TR K A (call (.builtin "sorted") [.ref a]) ρ s _ _
  unfold Q7 at h1
  cases hi:Ue l with
  | some is=>
   rw[hi] at h1
   cases (Option.some.inj h1)
   cases Zde hi
   refine byC fun hX=>?_;obtain ⟨q1,q2⟩:=Zjm rv;refine hX ?_;clear hX
   refine Zeg (κ:=oneType') (f:=fun w=>.int (kOf s.heap w).a) hr ho rv hll hl' ?_ (fun s' u_ E=>Zug q1 _) ?_ ?_
   ·intro h2 s' _ Q E hq
    obtain ⟨w1,w2,wr,rfl⟩ : ∃w1 w2 wr,ws=w1::w2::wr:=by
     match ws,h2 with
     | w1::w2::wr,_=>exact ⟨w1,w2,wr,rfl⟩
    rw[keyKind_ints (intsAre_map _ q1)]
    exact wpAny_pure hq
   ·intro w hw;obtain ⟨n,t,rfl⟩:=q1 w hw;exact .int n t
   ·intro hp out hk hperm hpw
    have e0:∀w∈out,(kOf s.heap w)=kOf hp w:=fun w hw=>by obtain ⟨n,t,rfl⟩:=q1 w (hperm.mem_iff.mp hw);rfl
    have e3:out.map (fun w=>V.int (kOf s.heap w).a)=((out.map (kOf hp)).map (·.a)).map V.int:=by
     rw[List.map_map,List.map_map]
     exact List.map_congr_left fun w hw=>by simp only[Function.comp];rw[e0 w hw]
    rw[e3]
    congr 1
    refine List.Perm.eq_of_pairwise (le:=fun x y:Int=>x≤y) (fun a b u_ v_ h1 h2=>Int.le_antisymm h1 h2) ?_ ?_ ?_
    ·rw[List.pairwise_map]
     exact hpw.imp fun {x y} h=>by have:=(X0 x y).mp h;lia
    ·have:=List.pairwise_mergeSort (le:=fun a b:Int=>decide (a≤b)) (fun a b c h1 h2=>by simp at *;exact lz3 [(.zle .v0 .v2),(.zle .v2 .v1)] (.zle .v0 .v1) (.d 1111) rfl h1 h2) (fun a b=>by simp;exact lz2 [] (.or (.zle .v0 .v1) (.zle .v1 .v0)) (.d 111) rfl) is
     exact this.imp fun h=>by simpa using h
    ·have:=(hperm.map (kOf hp)).map (·.a)
     rw[q2 hp] at this
     exact this.trans (List.mergeSort_perm _ _).symm
  | none =>
    rw[hi] at h1
    refine Jx ((show (t3s l).map _=some l' from h1)) fun ts ht e=>?_
    cases e
    cases Zjl ht
    refine byC fun hX=>?_;obtain ⟨q1,q2⟩:=Zjn rv;refine hX ?_;clear hX
    refine Zeg (κ:=tuples' true) (f:=fun w=>(kOf s.heap w).v) hr ho rv hll hl' ?_ (fun s' hk E=>Zuh fun w hw=>?_) ?_ ?_
    ·intro h2 s' hk Q E hq
     obtain ⟨fs,k1,k2,k3⟩:=Zmu (h:=s'.heap) (ws:=ws) fun w hw=>by
      refine byC fun hX=>?_;obtain ⟨a,n0,n1,n2,t0,t1,t2,e,g⟩:=q1 w hw;refine hX ?_;clear hX
      exact ⟨a,n0,n1,n2,t0,t1,t2,e,hk _ _ g⟩
     refine kat_kind (T := .type "int") k1 (by exact ln2 [(.le (.k 2) .v1),(.eq .v0 .v1)] (.lt .k0 .v0) (.l [1, 1, 0, 1]) rfl h2 k2) (fun v hv => ?_) rfl hq
     refine byC fun hX=>?_;obtain ⟨n,t,rfl⟩:=k3 v hv;refine hX ?_;clear hX
     exact Looks.of_pure rfl
    ·refine byC fun hX=>?_;obtain ⟨a,n0,n1,n2,t0,t1,t2,e,g⟩:=q1 w hw;refine hX ?_;clear hX
     exact ⟨a,n0,n1,n2,t0,t1,t2,e,hk _ _ g⟩
    ·intro w hw
     refine byC fun hX=>?_;obtain ⟨a,n0,n1,n2,t0,t1,t2,rfl,g⟩:=q1 w hw;refine hX ?_;clear hX
     have:kOf s.heap (.ref a)=⟨n0,n1,n2⟩:=by
      show ((s.heap.get? a).map fun o=>Zao o.data).getD default=_
      rw[g];rfl
     rw[this]
     exact .tup g (.cons (.int _ _) (.cons (.int _ _) (.cons (.int _ _) .nil))) (show 3≤Zl by decide)
    ·intro hp out hk hperm hpw
     have e0:∀w∈out,(kOf s.heap w)=kOf hp w:=fun w hw=>by
      refine byC fun hX=>?_;obtain ⟨a,n0,n1,n2,t0,t1,t2,rfl,g⟩:=q1 w (hperm.mem_iff.mp hw);refine hX ?_;clear hX
      show ((s.heap.get? a).map fun o=>Zao o.data).getD default=((hp.get? a).map fun o=>Zao o.data).getD default
      rw[g,hk _ _ g]
     have e3:out.map (fun w=>(kOf s.heap w).v)=(out.map (kOf hp)).map T3.v:=by
      rw[List.map_map]
      exact List.map_congr_left fun w hw=>by simp only[Function.comp];rw[e0 w hw]
     rw[e3]
     congr 1
     refine List.Perm.eq_of_pairwise (le:=fun x y:T3=>T3.le x y=true) (fun a b u_ v_ h1 h2=>X1 h1 h2) hpw ?_ ?_
     ·exact List.pairwise_mergeSort (le := T3.le) (fun a b c => Z4) (fun a b => by
       cases h:T3.le a b with
       | true=>rfl
       | false=>exact Yv h) ts
     ·have:=hperm.map (kOf hp)
      rw[q2 hp hk] at this
      exact this.trans (List.mergeSort_perm _ _).symm
end
end Mini.Internal
namespace Mini.Internal
open PySem
variable {ρ ρ' ρ1:List Addr}{σ σ' σ1:H}{s s' s1:Shared}{h h':Heap}{ℓ ℓ':L}
section
variable {C:Cl}{ℓ ℓ' ℓ1:L}{σ σ' σ1 σ2 σ3:H}{v x y:V}{a b e:Ex}{as:Es}{vs:List V}
theorem Zf:Zg C (.lit v) ℓ σ=some (.ok v,σ):=rfl
theorem Zmv {t:Nat}:Zg C (.ty t) ℓ σ=some (.ok (.ty t),σ):=rfl
theorem Zb {i:Nat}(h:ℓ[i]?.join=some v):Zg C (.var i) ℓ σ=some (.ok v,σ):=by show okX (ℓ[i]?.join) σ=_;rw[h];rfl
theorem Zy {α β:Type}{p:X α}{f:α→H→X β}{r:α}{s:H}(h:p=some (.ok r,s)):bok p f=f r s:=by rw[h];rfl
theorem Zi {op:Bop}(ha:Zg C a ℓ σ=some (.ok x,σ1))(hb:Zg C b ℓ σ1=some (.ok y,σ2))(h:J1 op x y σ2=some (v,σ3)):Zg C (.bin op a b) ℓ σ=some (.ok v,σ3) :=
 (Zy ha).trans ((Zy hb).trans (by show okH (J1 op x y σ2)=_;rw[h];rfl))
theorem Zqk {i:Int}(ha:Zg C a ℓ σ=some (.ok (.int i),σ1)):Zg C (.neg a) ℓ σ=some (.ok (.int (-i)),σ1):=Zy ha
theorem Zui {p:Bool}(ha:Zg C a ℓ σ=some (.ok (.bool p),σ1)):Zg C (.not a) ℓ σ=some (.ok (.bool (!p)),σ1):=Zy ha
theorem U3 (ha:Zg C a ℓ σ=some (.ok (.bool true),σ1)){r:X V}(hb:Zg C b ℓ σ1=r):Zg C (.and a b) ℓ σ=r:=(Zy ha).trans hb
theorem U4 (ha:Zg C a ℓ σ=some (.ok (.bool false),σ1)):Zg C (.and a b) ℓ σ=some (.ok (.bool false),σ1):=Zy ha
theorem Wu (ha:Zg C a ℓ σ=some (.ok (.bool false),σ1)){r:X V}(hb:Zg C b ℓ σ1=r):Zg C (.or a b) ℓ σ=r:=(Zy ha).trans hb
theorem Qo {p q:Bool}(ha:Zg C a ℓ σ=some (.ok (.bool p),σ))(hb:Zg C b ℓ σ=some (.ok (.bool q),σ)):Zg C (.and a b) ℓ σ=some (.ok (.bool (p&&q)),σ):=by
 cases p with
 | true=>exact U3 ha hb
 | false=>exact U4 ha
theorem Zk {op:Cop}{p:Bool}(ha:Zg C a ℓ σ=some (.ok x,σ1))(hb:Zg C b ℓ σ1=some (.ok y,σ2))(h:Z9 op x y σ2=some p):Zg C (.cmp a (.one op b)) ℓ σ=some (.ok (.bool p),σ2) :=
 (Zy ha).trans ((Zy hb).trans (by show okX ((Z9 op x y σ2).map V.bool) σ2=_;rw[h];rfl))
theorem Zbo {op op':Cop}{c:Ex}{z:V}{p q:Bool}(ha:Zg C a ℓ σ=some (.ok x,σ))(hb:Zg C b ℓ σ=some (.ok y,σ))(hc:Zg C c ℓ σ=some (.ok z,σ))(h:Z9 op x y σ=some p)(h':Z9 op' y z σ=some q):Zg C (.cmp a (.more op b (.one op' c))) ℓ σ=some (.ok (.bool (p&&q)),σ):=by
 refine (Zy ha).trans ((Zy hb).trans ?_)
 show (match Z9 op x y σ with
  | some true=>Zag C y (.one op' c) ℓ σ
  | some false=>some (.ok (.bool false),σ)
  | .none=>.none)=_
 rw[h]
 cases p with
 | false=>rfl
 | true=>exact (Zy hc).trans (by show okX ((Z9 op' y z σ).map V.bool) σ=_;rw[h'];rfl)
theorem Y8 (ha:Zg C a ℓ σ=some (.ok x,σ1))(hb:Zg C b ℓ σ1=some (.ok y,σ2))(h:Yo σ2 x y=some v):Zg C (.idx a b) ℓ σ=some (.ok v,σ2) :=
 (Zy ha).trans ((Zy hb).trans (by show okX (Yo σ2 x y) σ2=_;rw[h];rfl))
theorem Zm {i:Nat}{k:V}(h:ℓ[i]?.join=some x)(h2:Yo σ x k=some v):Zg C (.idx (.var i) (.lit k)) ℓ σ=some (.ok v,σ):=Y8 (Zb h) Zf h2
theorem Y4 (hs:Yy C as ℓ σ=some (.ok vs,σ1))(hl:Nat.ble vs.length Zl=true):Zg C (.tup as) ℓ σ=some (.ok (.tup vs),σ1):=(Zy hs).trans (if_pos (Nat.le_of_ble_eq_true hl))
theorem Uj (hs:Yy C as ℓ σ=some (.ok vs,σ1))(hl:Nat.ble vs.length Zl=true):Zg C (.lst as) ℓ σ=some (.ok (.obj σ1.length),σ1++[.list vs]):=(Zy hs).trans (by show okH (Yu σ1 vs)=_;unfold Yu;rw[if_pos (Nat.le_of_ble_eq_true hl)];rfl)
theorem Zo {f:Nat}{r:X V}(hs:Yy C as ℓ σ=some (.ok vs,σ1))(h:C.call f vs σ1=r):Zg C (.call f as) ℓ σ=r:=(Zy hs).trans h
theorem Z6 {f:Blt}(hs:Yy C as ℓ σ=some (.ok vs,σ1))(h:Wa f vs σ1=some (v,σ2)):Zg C (.blt f as) ℓ σ=some (.ok v,σ2):=(Zy hs).trans (by show okH (Wa f vs σ1)=_;rw[h];rfl)
theorem Xd {m:Mth}{l:List V}(ha:Zg C a ℓ σ=some (.ok x,σ1))(hl:Yg σ1 x=some l)(hs:Yy C as ℓ σ1=some (.ok vs,σ2))(h:W3 m x vs σ2=some (v,σ3)):Zg C (.mth m a as) ℓ σ=some (.ok v,σ3) :=
 (Zy ha).trans (by
  show ((Yg σ1 x).bind fun u_=>bok (Yy C as ℓ σ1) fun vs σ2=>okH (W3 m x vs σ2))=_
  rw[hl];exact (Zy hs).trans (by rw[h];rfl))
theorem Zdf {k:Nat}{p:Nat×List (Nat×V)}(ha:Zg C a ℓ σ=some (.ok x,σ1))(hp:Zds σ1 x=some p)(h:p.2.lookup k=some v):Zg C (.attr a k) ℓ σ=some (.ok v,σ1) :=
 (Zy ha).trans (by show okX ((Zds σ1 x).bind fun p=>p.2.lookup k) σ1=_;rw[hp];show okX (p.2.lookup k) σ1=_;rw[h];rfl)
theorem Jt {m f:Nat}{r:X V}(ha:Zg C a ℓ σ=some (.ok x,σ1))(hm:Xq C.pg σ1 x m=some f)(hs:Yy C as ℓ σ1=some (.ok vs,σ2))(h:C.call f (x::vs) σ2=r):Zg C (.ucall m a as) ℓ σ=r :=
 (Zy ha).trans (by
  show ((Xq C.pg σ1 x m).bind fun f=>bok (Yy C as ℓ σ1) fun vs σ2=>C.call f (x::vs) σ2)=_
  rw[hm];exact (Zy hs).trans h)
theorem Zuj {c f:Nat}(hi:C.pg.init c=some f)(h:C.call f [.obj (σ.length+1)] (σ++[.ns []]++[.inst c σ.length])=some (.ok .none,σ1)):Zg C (.new c .nil) ℓ σ=some (.ok (.obj (σ.length+1)),σ1):=by
 show ((C.pg.init c).bind fun f=>bok (C.call f [.obj (σ.length+1)] (σ++[.ns []]++[.inst c σ.length])) fun r σ2=>if r.isNone then some (R.ok (V.obj (σ.length+1)),σ2) else .none)=_
 rw[hi];exact (Zy h).trans rfl
theorem Ze:Yy C .nil ℓ σ=some (.ok [],σ):=rfl
theorem Za (ha:Zg C a ℓ σ=some (.ok x,σ1))(hs:Yy C as ℓ σ1=some (.ok vs,σ2)):Yy C (.cons a as) ℓ σ=some (.ok (x::vs),σ2):=(Zy ha).trans (Zy hs)
theorem Zdg:Ji C .nil ℓ σ=some (.ok true,σ):=rfl
theorem X3 {p:Bool}(ha:Zg C a ℓ σ=some (.ok (.bool p),σ1)):Ji C (.cons a .nil) ℓ σ=some (.ok p,σ1):=(Zy ha).trans (by cases p <;> rfl)
theorem Zmw {α:Type}{p:X α}{r:α}{s:H}(h:p=some (.ok r,s)):noX p=some (.ok r,s):=Zy h
theorem Uk (h:Zg C e ℓ σ=some (.ok v,σ1)):Wr C e ℓ σ=some (.ok v,σ1):=by
 cases e with
 | call f as=>exact h
 | _=>exact Zmw h
theorem Zie (h:Wr C a ℓ σ=some (.ok x,σ1))(hs:Wj C as ℓ σ1=some (.ok vs,σ2)):Wj C (.cons a as) ℓ σ=some (.ok (x::vs),σ2):=by
 show bnd (Wr C a ℓ σ) _=_
 rw[h];show bnd (Wj C as ℓ σ1) _=_;rw[hs];rfl
theorem Xe {k:Nat}(h:Wr C a ℓ σ=some (.exc k,σ1)):Wj C (.cons a as) ℓ σ=some (.exc k,σ1):=by
 show bnd (Wr C a ℓ σ) _=_
 rw[h];rfl
theorem Jo {k:Nat}(h:Wr C a ℓ σ=some (.ok x,σ1))(hs:Wj C as ℓ σ1=some (.exc k,σ2)):Wj C (.cons a as) ℓ σ=some (.exc k,σ2):=by
 show bnd (Wr C a ℓ σ) _=_
 rw[h];show bnd (Wj C as ℓ σ1) _=_;rw[hs];rfl
theorem Xf:∀{as:Es}{ℓ:L}{σ σ1:H}{vs:List V},Yy C as ℓ σ=some (.ok vs,σ1)→Wj C as ℓ σ=some (.ok vs,σ1)
 | .nil,_,_,_,_,h=>h
 | .cons a as,_,_,_,_,h=>by
  refine Yb (h) fun x σ2 h1 h2=>?_
  refine Yb (h2) fun y σ3 h3 h4=>?_
  refine okE h4 ?_
  exact Zie (Uk h1) (Xf h3)
theorem Wm {f:Nat}{r:X V}(hs:Wj C as ℓ σ=some (.ok vs,σ1))(h:C.call f vs σ1=r):Jm C (.call f as) ℓ σ=r:=by
 show bnd (Wj C as ℓ σ) _=_
 rw[hs];exact h
theorem Xg {f k:Nat}(hs:Wj C as ℓ σ=some (.exc k,σ1)):Jm C (.call f as) ℓ σ=some (.exc k,σ1):=by
 show bnd (Wj C as ℓ σ) _=_
 rw[hs];rfl
theorem Qp (h:Zg C e ℓ σ=some (.ok v,σ1)):Jm C e ℓ σ=some (.ok v,σ1):=by
 cases e with
 | call f as=>
  refine Yb (h) fun vs σ2 h1 h2=>?_
  exact Wm (Xf h1) h2
 | ucall m o as=>exact h
 | _=>exact Zmw h
theorem Zhg {α:Type}{p:X α}{f:α→H→Y}{r:α}{s:H}(h:p=some (.ok r,s)):Zb9 p ℓ f=f r s:=by rw[h];rfl
theorem Zfp {α:Type}{p:X α}{f:α→H→Y}{k:Nat}{s:H}(h:p=some (.exc k,s)):Zb9 p ℓ f=some (.exc k,ℓ,s):=by rw[h];rfl
theorem Zcf {f:V→H→Y}{s:H}(h:Zg C e ℓ σ=some (.ok v,s)):Zb9 (Jm C e ℓ σ) ℓ f=f v s:=Zhg (Qp h)
theorem Q1 {α:Type}{p:X α}{f:α→H→Y}{r:α}{s:H}(h:p=some (.ok r,s)):Zga p f=f r s:=by rw[h];rfl
set_option tactic.hygienic true in
theorem Zbp {o:Ex}{k:Nat}{p:Nat×List (Nat×V)}(h:Jm C e ℓ σ=some (.ok v,σ1))(ho:Zg C o ℓ σ1=some (.ok x,σ2))(hp:Zds σ2 x=some p):exec C (.aset o k e) ℓ σ=some (.next,ℓ,Yi σ2 p.1 (.ns (Zav p.2 k v))) :=
 (Zhg h).trans ((Q1 ho).trans (by
  show (Zds σ2 x).map (fun p=>(Fl.next,ℓ,Yi σ2 p.1 (.ns (Zav p.2 k v))))=_
  rw[hp];rfl))
theorem Zjo {o:Ex}{k c:Nat}(h:Jm C e ℓ σ=some (.exc c,σ1)):exec C (.aset o k e) ℓ σ=some (.exc c,ℓ,σ1):=Zfp h
theorem Zdh {c:Nat}(h:Jm C e ℓ σ=some (.exc c,σ1)):exec C (.ret e) ℓ σ=some (.exc c,ℓ,σ1):=Zfp h
theorem Zjp {c:Nat}(h:Jm C e ℓ σ=some (.exc c,σ1)):exec C (.expr e) ℓ σ=some (.exc c,ℓ,σ1):=Zfp h
theorem Jh {s:St}{t:Ss}{c:Nat}(h:exec C s ℓ σ=some (.exc c,ℓ1,σ1)):execs C (.cons s t) ℓ σ=some (.exc c,ℓ1,σ1):=by
 show Qe (exec C s ℓ σ) _=_
 rw[h];rfl
theorem Zjq {c:Nat}:exec C (.raise c) ℓ σ=some (.exc c,ℓ,σ):=rfl
set_option tactic.hygienic true in
theorem Zx {i:Nat}(h:Zg C e ℓ σ=some (.ok v,σ1))(hi:Nat.blt i ℓ.length=true):exec C (.asg (.one i) e) ℓ σ=some (.next,ℓ.set i (some v),σ1) :=
 (Zcf h).trans (by show (Qh ℓ i v).map _=_;unfold Qh;rw[if_pos (show i<ℓ.length from Nat.le_of_ble_eq_true hi)];rfl)
set_option tactic.hygienic true in
theorem Y7 (h:Zg C e ℓ σ=some (.ok v,σ1)):exec C (.expr e) ℓ σ=some (.next,ℓ,σ1):=Zcf h
theorem Z1 (h:Zg C e ℓ σ=some (.ok v,σ1)):exec C (.ret e) ℓ σ=some (.ret v,ℓ,σ1):=Zcf h
theorem Z7 {s t:Ss}{r:Y}(h:Zg C e ℓ σ=some (.ok (.bool true),σ1))(hs:execs C s ℓ σ1=r):exec C (.ife e s t) ℓ σ=r:=(Q1 h).trans hs
theorem Zq {s t:Ss}{r:Y}(h:Zg C e ℓ σ=some (.ok (.bool false),σ1))(hs:execs C t ℓ σ1=r):exec C (.ife e s t) ℓ σ=r:=(Q1 h).trans hs
set_option tactic.hygienic true in
theorem Zn:execs C .nil ℓ σ=some (.next,ℓ,σ):=rfl
set_option tactic.hygienic true in
theorem Zc {s:St}{t:Ss}{r:Y}(h:exec C s ℓ σ=some (.next,ℓ1,σ1))(hs:execs C t ℓ1 σ1=r):execs C (.cons s t) ℓ σ=r:=by
 show Qe (exec C s ℓ σ) _=r
 rw[h];exact hs
theorem Zp {s:St}{t:Ss}(h:exec C s ℓ σ=some (.ret v,ℓ1,σ1)):execs C (.cons s t) ℓ σ=some (.ret v,ℓ1,σ1):=by
 show Qe (exec C s ℓ σ) _=_
 rw[h];rfl
set_option tactic.hygienic true in
theorem Zv {s:St}(h:exec C s ℓ σ=some (.next,ℓ1,σ1)):execs C (.cons s .nil) ℓ σ=some (.next,ℓ1,σ1):=Zc h rfl
theorem Zfq {s:St}{t:Ss}(h:exec C s ℓ σ=some (.brk,ℓ1,σ1)):execs C (.cons s t) ℓ σ=some (.brk,ℓ1,σ1):=by
 show Qe (exec C s ℓ σ) _=_
 rw[h];rfl
theorem Zql:exec C .brk ℓ σ=some (.brk,ℓ,σ):=rfl
end
section
variable {i j:Int}{σ:H}
theorem gtT (h:j<i):Z9 .gt (.int i) (.int j) σ=some true:=congrArg some (decide_eq_true h)
theorem gtF (h:¬ j<i):Z9 .gt (.int i) (.int j) σ=some false:=congrArg some (decide_eq_false h)
theorem clT (h:i<j):Z9 .lt (.int i) (.int j) σ=some true:=congrArg some (decide_eq_true h)
theorem clF (h:¬ i<j):Z9 .lt (.int i) (.int j) σ=some false:=congrArg some (decide_eq_false h)
theorem leT (h:i≤j):Z9 .le (.int i) (.int j) σ=some true:=congrArg some (decide_eq_true h)
theorem leF (h:¬ i≤j):Z9 .le (.int i) (.int j) σ=some false:=congrArg some (decide_eq_false h)
theorem geT (h:j≤i):Z9 .ge (.int i) (.int j) σ=some true:=congrArg some (decide_eq_true h)
theorem geF (h:¬ j≤i):Z9 .ge (.int i) (.int j) σ=some false:=congrArg some (decide_eq_false h)
theorem eqT (h:i=j):Z9 .eq (.int i) (.int j) σ=some true:=congrArg some (decide_eq_true h)
theorem eqF (h:¬ i=j):Z9 .eq (.int i) (.int j) σ=some false:=congrArg some (decide_eq_false h)
theorem neF (h:i=j):Z9 .ne (.int i) (.int j) σ=some false:=congrArg (fun b=>some (!b)) (decide_eq_true h)
theorem neT (h:¬ i=j):Z9 .ne (.int i) (.int j) σ=some true:=congrArg (fun b=>some (!b)) (decide_eq_false h)
theorem Zbq {C:Cl}{a:Ex}(ha:Zg C a ℓ σ=some (.ok (.bool true),σ1)):Zg C (.not a) ℓ σ=some (.ok (.bool false),σ1):=Zui ha
end
@[simp] theorem Z2 (x y:Int)(σ:H):J1 .add (.int x) (.int y) σ=some (.int (x+y),σ):=rfl
@[simp] theorem Ye (x y:Int)(σ:H):J1 .sub (.int x) (.int y) σ=some (.int (x-y),σ):=rfl
theorem Je {x y:Int}(h:mulOK x y)(σ:H):J1 .mul (.int x) (.int y) σ=some (.int (x*y),σ):=by simp only[J1,J0,Q6,if_pos h,Option.bind_some,Option.map_some]
@[simp] theorem Zt {x y:Int}(h:y≠0∧y.natAbs<2^256)(σ:H):J1 .fdiv (.int x) (.int y) σ=some (.int (x.fdiv y),σ):=by simp only[J1,J0,Q6,if_pos h,Option.bind_some,Option.map_some]
@[simp] theorem Zr {x y:Int}(h:y≠0)(σ:H):J1 .mod (.int x) (.int y) σ=some (.int (x.fmod y),σ):=by simp only[J1,J0,Q6,if_pos h,Option.bind_some,Option.map_some]
@[simp] theorem Ju {x y:Int}(h:0≤y∧y≤256∧x.natAbs<2^64)(σ:H):J1 .pow (.int x) (.int y) σ=some (.int (x^y.toNat),σ):=by simp only[J1,J0,Q6,if_pos h,Option.bind_some,Option.map_some]
theorem Zjr {m n:Nat}{x y:List V}(h1:Yg σ (.obj m)=some x)(h2:Yg σ (.obj n)=some y):J1 .add (.obj m) (.obj n) σ=Yu σ (x++y):=by simp only[J1,if_pos,Zrr,h1,h2,Option.bind_some]
@[simp] theorem Jv {l:List V}(h:l.length≤Zl)(σ:H):Yu σ l=some (.obj σ.length,σ++[.list l]):=by simp only[Yu,if_pos h]
theorem Zs {n:Nat}{l:List V}(h:σ[n]?=some (.list l)):Yg σ (.obj n)=some l:=by simp only[Yg,h]
theorem Uc {n:Nat}{l:List V}(h:σ[n]?=some (.list l)):items σ (.obj n)=some l:=by simp only[items,h]
theorem Zif (σ:H)(a:V)(k:Int):Yo σ a (.int k)=(items σ a).bind fun l=>(Zco k l.length).bind fun j=>l[j]?:=rfl
@[simp] theorem items_tup (σ:H)(l:List V):items σ (.tup l)=some l:=rfl
@[simp] theorem items_frz (σ:H)(l:List Int):items σ (.frz l)=some (l.map .int):=rfl
@[simp] theorem truth_bool (b:Bool):Uq (.bool b)=some b:=rfl
@[simp] theorem truth_none:Uq .none=some false:=rfl
@[simp] theorem Qq (x y:Int)(σ:H):Z9 .le (.int x) (.int y) σ=some (decide (x≤y)):=rfl
@[simp] theorem Zs5 (x y:Int)(σ:H):Z9 .lt (.int x) (.int y) σ=some (decide (x<y)):=rfl
@[simp] theorem cmp_gt (x y:Int)(σ:H):Z9 .gt (.int x) (.int y) σ=some (decide (y<x)):=rfl
@[simp] theorem Zs6 (x y:Int)(σ:H):Z9 .ge (.int x) (.int y) σ=some (decide (y≤x)):=rfl
@[simp] theorem cmp_eq (x y:Int)(σ:H):Z9 .eq (.int x) (.int y) σ=some (decide (x=y)):=rfl
@[simp] theorem cmp_ne (x y:Int)(σ:H):Z9 .ne (.int x) (.int y) σ=some (!decide (x=y)):=rfl
@[simp] theorem cmp_bne (x y:Bool)(σ:H):Z9 .ne (.bool x) (.bool y) σ=some (!(x == y)):=rfl
theorem Ul {pg:Pg}{d n:Nat}{F:Fn}{as:List V}(hF:pg.fn n=some F)(hs:Ut F as=some ℓ):Zh pg (d+1) n as σ=gc F.mode σ (Xs (execs ⟨pg,Zh pg d⟩ F.body ℓ σ)):=by
 show (pg.fn n).bind _=_
 rw[hF];show (Ut F as).bind _=_;rw[hs];rfl
theorem Zjs {t:H}{v:V}(h:below σ.length v=true):gc .pure σ (some (.ok v,σ++t))=some (.ok v,σ):=if_pos ⟨List.take_left,h⟩
theorem Zdi {v:V}(h:below σ.length v=true):gc .pure σ (some (.ok v,σ))=some (.ok v,σ):=if_pos ⟨List.take_length,h⟩
@[simp] theorem below_int (n:Nat)(i:Int):below n (.int i)=true:=rfl
@[simp] theorem below_bool (n:Nat)(i:Bool):below n (.bool i)=true:=rfl
@[simp] theorem T3.below_v (n:Nat)(x:T3):below n x.v=true:=rfl
@[simp] theorem len1:1≤Zl:=by decide
@[simp] theorem len2:2≤Zl:=by decide
@[simp] theorem len3:3≤Zl:=by decide
@[simp] theorem len4:4≤Zl:=by decide
@[simp] theorem Zeh (x:Int):J0 (.int x)=some x:=rfl
@[simp] theorem asTup_tup (x:List V):Zcn (.tup x)=some x:=rfl
@[simp] theorem asBound_int (x:Int):Qu (.int x)=some (some x):=rfl
@[simp] theorem asBound_none:Qu .none=some .none:=rfl
@[simp] theorem listOf_frz (σ:H)(l:List Int):Yg σ (.frz l)=some (l.map .int):=rfl
@[simp] theorem Xh (x:V):Zbh [x]=some x:=rfl
@[simp] theorem arg2_two (x y:V):Zhx [x,y]=some (x,y):=rfl
@[simp] theorem tyNo_ty (t:Nat):Zt1 (.ty t)=some t:=rfl
@[simp] theorem loN_some (i:Int)(n:Nat):loN (some i) n=Z5 i n:=rfl
@[simp] theorem hiN_some (i:Int)(n:Nat):hiN (some i) n=Z5 i n:=rfl
@[simp] theorem loN_none (n:Nat):loN .none n=0:=rfl
@[simp] theorem hiN_none (n:Nat):hiN .none n=n:=rfl
theorem Zmx {n:Nat}{l:List V}(h:σ[n]?=some (.list l)):Yg σ (.obj n)=some l:=by
 show (match σ[n]? with | some (.list l)=>some l | _=>Option.none)=_
 rw[h]
theorem Zs7 {m:Nat}{l:List V}(h1:σ'.take σ.length=σ)(h2:¬ m<σ.length)(h3:σ'[m]?=some (.list l))(h4:belows σ.length l=true):gc .fresh σ (some (.ok (.obj m),σ'))=some (.ok (.obj σ.length),σ++[.list l]):=by
 refine (if_pos h1).trans ((if_neg h2).trans ?_)
 rw[Zmx h3];exact if_pos h4
theorem Yz {pg:Pg}{d n k:Nat}{ps:List Nat}{B:Ss}{as:List V}{v:V}(hF:pg.fn n=some ⟨ps,k,B,.pure⟩)(hs:Ut ⟨ps,k,B,.pure⟩ as=some ℓ)(h:execs ⟨pg,Zh pg d⟩ B ℓ σ=some (.ret v,ℓ',σ))(hb:below σ.length v=true):Zh pg (d+1) n as σ=some (.ok v,σ):=by
 rw[Ul hF hs];show gc .pure σ (Xs (execs ⟨pg,Zh pg d⟩ B ℓ σ))=_;rw[h];exact Zdi hb
theorem Zei {pg:Pg}{d n k:Nat}{ps:List Nat}{B:Ss}{as:List V}{t:H}{v:V}(hF:pg.fn n=some ⟨ps,k,B,.pure⟩)(hs:Ut ⟨ps,k,B,.pure⟩ as=some ℓ)(h:execs ⟨pg,Zh pg d⟩ B ℓ σ=some (.ret v,ℓ',σ++t))(hb:below σ.length v=true):Zh pg (d+1) n as σ=some (.ok v,σ):=by
 rw[Ul hF hs];show gc .pure σ (Xs (execs ⟨pg,Zh pg d⟩ B ℓ σ))=_;rw[h];exact Zjs hb
theorem Zs8 {pg:Pg}{d n k:Nat}{ps:List Nat}{B:Ss}{as:List V}{t:H}{v:V}(hF:pg.fn n=some ⟨ps,k,B,.pure⟩)(hs:Ut ⟨ps,k,B,.pure⟩ as=some ℓ)(h:execs ⟨pg,Zh pg d⟩ B ℓ []=some (.ret v,ℓ',t))(hb:below 0 v=true):Zh pg (d+1) n as []=some (.ok v,[]):=Zei (σ:=[]) (t:=t) hF hs h hb
set_option tactic.hygienic true in
theorem Zmy {pg:Pg}{d n k:Nat}{ps:List Nat}{B:Ss}{as:List V}(hF:pg.fn n=some ⟨ps,k,B,.pure⟩)(hs:Ut ⟨ps,k,B,.pure⟩ as=some ℓ)(h:execs ⟨pg,Zh pg d⟩ B ℓ σ=some (.next,ℓ',σ)):Zh pg (d+1) n as σ=some (.ok .none,σ):=by
 rw[Ul hF hs];show gc .pure σ (Xs (execs ⟨pg,Zh pg d⟩ B ℓ σ))=_;rw[h];exact Zdi rfl
theorem Jy {pg:Pg}{d n k m:Nat}{ps:List Nat}{B:Ss}{as:List V}{t:H}{l:List V}(hF:pg.fn n=some ⟨ps,k,B,.fresh⟩)(hs:Ut ⟨ps,k,B,.fresh⟩ as=some ℓ)(h:execs ⟨pg,Zh pg d⟩ B ℓ σ=some (.ret (.obj m),ℓ',σ++t))(hm:σ.length≤m)(hb:belows σ.length l=true)(ht:(σ++t)[m]?=some (.list l)):Zh pg (d+1) n as σ=some (.ok (.obj σ.length),σ++[.list l]):=by
 have:¬ m<σ.length:=by exact ln2 [(.le .v1 .v0)] (.no (.lt .v0 .v1)) (.d 111) rfl hm
 rw[Ul hF hs];show gc .fresh σ (Xs (execs ⟨pg,Zh pg d⟩ B ℓ σ))=_;rw[h]
 exact Zs7 List.take_left this ht hb
noncomputable def Zuk:St:=(.ret (.idx (.bin .add (.slc .v0 (.yes .v1) (.yes (.bin .add .v1 (.i 1))) .no) (.lst (.cons (.i 0) .nil))) (.i 0)))
noncomputable def B16:Ss:=.cons Zuk <| .nil
noncomputable def Zqm:St:=(.asg (.one 1) (.bin .sub (.bin .mod (.bin .fdiv .v0 (.i 4)) (.i 61)) (.i 30)))
noncomputable def Zqn:St:=(.ife (.cmp (.bin .mod .v0 (.i 4)) (.one .eq (.i 3))) (.cons (.asg (.one 1) (.bin .sub (.bin .mod (.bin .mul (.bin .fdiv .v0 (.i 4)) (.bin .pow (.i 48271) (.i 12))) (.bin .sub (.bin .mul (.i 2) (.bin .pow (.i 10) (.i 60))) (.i 1))) (.bin .sub (.bin .pow (.i 10) (.i 60)) (.i 1)))) .nil) .nil)
noncomputable def Zqo:St:=(.asg (.one 2) (.bin .mod (.bin .fdiv .v0 (.i 244)) (.i 16)))
noncomputable def Zqp:St:=(.ife (.cmp (.bin .mod (.bin .fdiv .v0 (.i 3904)) (.i 8)) (.one .eq (.i 1))) (.cons (.asg (.one 2) (.bin .mod (.bin .mul (.bin .fdiv .v0 (.i 4)) (.bin .pow (.i 69621) (.i 12))) (.bin .pow (.i 10) (.i 60)))) .nil) .nil)
noncomputable def Zqq:St:=(.asg (.one 3) (.bin .sub (.bin .mod (.bin .fdiv .v0 (.i 31232)) (.i 7)) (.i 3)))
noncomputable def Zqr:St:=(.ife (.cmp (.bin .mod (.bin .fdiv .v0 (.i 218624)) (.i 8)) (.one .eq (.i 1))) (.cons (.asg (.one 3) (.bin .sub (.bin .mod (.bin .mul (.bin .fdiv .v0 (.i 4)) (.bin .pow (.i 16807) (.i 14))) (.bin .sub (.bin .mul (.i 2) (.bin .pow (.i 10) (.i 60))) (.i 1))) (.bin .sub (.bin .pow (.i 10) (.i 60)) (.i 1)))) .nil) .nil)
noncomputable def Zqs:St:=(.ret (.tup (.cons .v1 (.cons (.blt .min (.cons (.bin .add .v1 .v2) (.cons (.bin .sub (.bin .pow (.i 10) (.i 60)) (.i 1)) .nil))) (.cons .v3 .nil)))))
noncomputable def B17:Ss:=.cons Zqm <| .cons Zqn <| .cons Zqo <| .cons Zqp <| .cons Zqq <| .cons Zqr <| .cons Zqs <| .nil
theorem Zmz (l:List Int)(k:Nat):∃r,((l.map V.int).take (Z5 ((k:Int)+1) l.length)).drop (Z5 (k:Int) l.length)++[V.int 0]=V.int (l.getD k 0)::r∧r.length≤1:=by
 have h1:Z5 ((k:Int)+1) l.length=min (k+1) l.length:=by
  unfold Z5;rw[if_neg (by exact ln1 [] (.no (.zlt (.a (.n .v0) .k1) .k0)) (.d 11) rfl)];simp
 have h2:Z5 (k:Int) l.length=min k l.length:=by
  unfold Z5;rw[if_neg (by exact ln1 [] (.no (.zlt (.n .v0) .k0)) (.d 11) rfl)];simp
 rw[h1,h2,← List.map_take,← List.map_drop]
 rcases Nat.lt_or_ge k l.length with h | h
 ·have e1:min (k+1) l.length=k+1:=by exact ln3 [(.lt .v1 .v2),(.mi .v0 (.a .v1 .k1) .v2)] (.eq .v0 (.a .v1 .k1)) (.s (.s (.d 110001) (.d 111001)) (.s (.d 11001) (.d 11011))) rfl h (Yc _ _)
  have e2:min k l.length=k:=by exact ln3 [(.lt .v1 .v2),(.mi .v0 .v1 .v2)] (.eq .v0 .v1) (.s (.s (.d 110001) (.d 1011)) (.s (.d 11001) (.d 1011))) rfl h (Yc _ _)
  rw[e1,e2,List.take_add_one,List.getElem?_eq_getElem h]
  have:(l.take k++[l[k]]).drop k=[l[k]]:=by
   rw[List.drop_append_of_le_length (by simp;exact ln2 [(.eq .v1 .v0)] (.le .v0 .v1) (.d 1101) rfl e2)];simp
  simp only[Option.toList_some,this]
  exact ⟨[V.int 0],by simp[List.getD_eq_getElem?_getD,List.getElem?_eq_getElem h],by simp⟩
 ·have e1:min (k+1) l.length=l.length:=by exact ln3 [(.le .v1 .v2),(.mi .v0 (.a .v2 .k1) .v1)] (.eq .v0 .v1) (.s (.s (.d 1011) (.d 110001)) (.s (.d 1011) (.d 11001))) rfl h (Yc _ _)
  have e2:min k l.length=l.length:=by exact ln3 [(.le .v1 .v2),(.mi .v0 .v2 .v1)] (.eq .v0 .v1) (.s (.s (.d 111001) (.d 110001)) (.s (.d 11011) (.d 11001))) rfl h (Yc _ _)
  rw[e1,e2,List.take_length,List.drop_length]
  refine ⟨[],?_,by simp⟩
  simp[List.getD_eq_getElem?_getD,List.getElem?_eq_none h]
theorem Zm0 {C:Cl}{e:Ex}{r:X V}(h:Zg C e ℓ σ=r):Xr C (.yes e) ℓ σ=r:=h
theorem Zul {C:Cl}:Xr C .no ℓ σ=some (.ok .none,σ):=rfl
theorem Zum {pg:Pg}(hF:pg.fn 16=some ⟨[0,1],10,B16,.pure⟩)(d:Nat)(l:List Int)(k:Nat)(σ:H):Zh pg (d+1) 16 [.frz l,.int (k:Nat)] σ=some (.ok (.int (l.getD k 0)),σ):=by
 refine rEA (fun r hr hrl=>?_) (Zmz l k)
 rw[Ul hF rfl]
 have hlen:(((l.map V.int).take (Z5 ((k:Int)+1) l.length)).drop (Z5 (k:Int) l.length)).length≤Zl:=by
  have:=congrArg List.length hr
  simp only[List.length_append,List.length_cons,List.length_nil] at this
  unfold Zl;lia
 generalize hx:((l.map V.int).take (Z5 ((k:Int)+1) l.length)).drop (Z5 (k:Int) l.length)=x at hr hlen
 have e1:Zg ⟨pg,Zh pg d⟩ (Ex.slc (Ex.var 0) (Oe.yes (Ex.var 1)) (Oe.yes (Ex.bin Bop.add (Ex.var 1) (Ex.lit (V.int 1)))) Oe.no) [some (.frz l),some (.int k),none,none,none,none,none,none,none,none] σ=some (.ok (.obj σ.length),σ++[.list x]):=by
  refine (Zy (Zb rfl)).trans ((Zy (Zm0 (Zb rfl))).trans ((Zy (Zm0 (Zi (Zb rfl) Zf rfl))).trans ((Zy Zul).trans ?_)))
  simp[okH,okX,Wg,Xo,hx,hlen]
 have hl2:(x++[V.int 0]).length≤Zl:=by rw[hr];simp;unfold Zl;exact ln1 [(.le .v0 .k1)] (.le (.a .v0 .k1) (.k 1000000)) (.d 111) rfl hrl
 have e2:J1 .add (.obj σ.length) (.obj (σ.length+1)) (σ++[.list x,.list [.int 0]])=Yu (σ++[.list x,.list [.int 0]]) (x++[.int 0]):=Zjr (Zs (by simp)) (Zs (by simp))
 have e3:Yo (σ++[.list x,.list [.int 0],.list (x++[.int 0])]) (.obj (σ.length+2)) (.int 0)=some (.int (l.getD k 0)):=by
  have hi:=Uc (σ:=σ++[O.list x,O.list [V.int 0],O.list (x++[V.int 0])]) (n:=σ.length+2) (l:=x++[.int 0]) (by simp)
  simp only[Yo,hi,Option.bind_some]
  rw[hr]
  simp[Zco]
 show gc .pure σ (Xs (execs ⟨pg,Zh pg d⟩ B16 [some (.frz l),some (.int k),none,none,none,none,none,none,none,none] σ))=_
 have:execs ⟨pg,Zh pg d⟩ B16 [some (.frz l),some (.int k),none,none,none,none,none,none,none,none] σ=some (.ret (.int (l.getD k 0)),[some (.frz l),some (.int k),none,none,none,none,none,none,none,none],σ++[.list x,.list [.int 0],.list (x++[.int 0])]):=by
  have e4:Zg ⟨pg,Zh pg d⟩ (Ex.lst (Es.cons (Ex.lit (V.int 0)) Es.nil)) [some (.frz l),some (.int k),none,none,none,none,none,none,none,none] (σ++[.list x])=some (.ok (.obj (σ.length+1)),σ++[.list x,.list [.int 0]]):=by rw[Uj (Za Zf Ze) rfl];simp
  have e5:J1 .add (.obj σ.length) (.obj (σ.length+1)) (σ++[.list x,.list [.int 0]])=some (.obj (σ.length+2),σ++[.list x,.list [.int 0],.list (x++[.int 0])]):=by rw[e2,Jv hl2];simp
  exact Zp (Z1 (Y8 (Zi e1 e4 e5) Zf e3))
 rw[this]
 exact Zjs rfl
theorem Zs9 {a:Int}(h:a.natAbs<2^256):Big a:=Nat.lt_of_lt_of_le h (Nat.pow_le_pow_right (by decide) (by unfold Zty;decide))
theorem Zm1 {a c:Int}(ha:Big a)(hc:c.natAbs<2^256):mulOK a c:=.inr (.inr ⟨ha,Zs9 hc⟩)
theorem Zhh (a:Int)(k:Nat):(a.fdiv (k:Int)).natAbs≤a.natAbs:=by
 rcases Nat.eq_zero_or_pos k with rfl | hk
 ·simp
 ·have h1:a.fdiv (k:Int)=a / (k:Int):=Int.fdiv_eq_ediv_of_nonneg _ (by exact ln1 [] (.zle .k0 (.n .v0)) (.d 11) rfl)
  rw[h1]
  exact Int.natAbs_ediv_le_natAbs a k
theorem Zm2 {a:Int}(h:Big a)(k:Nat):Big (a.fdiv (k:Int)):=Nat.lt_of_le_of_lt (Zhh a k) h
noncomputable def Ur (s:Int):Int:=if s.fmod 4=3 then (s.fdiv 4*48271^12).fmod (2*10^60-1)-(10^60-1) else (s.fdiv 4).fmod 61-30
noncomputable def Xi (s:Int):Int:=if (s.fdiv 3904).fmod 8=1 then (s.fdiv 4*69621^12).fmod (10^60) else (s.fdiv 244).fmod 16
noncomputable def Zbc (s:Int):Int:=if (s.fdiv 218624).fmod 8=1 then (s.fdiv 4*16807^14).fmod (2*10^60-1)-(10^60-1) else (s.fdiv 31232).fmod 7-3
noncomputable def Zej (s:Int):T3:=⟨Ur s,if 10^60-1<Ur s+Xi s then 10^60-1 else Ur s+Xi s,Zbc s⟩
theorem Zjt {pg:Pg}(hF:pg.fn 17=some ⟨[0],12,B17,.pure⟩)(d:Nat)(s:Int)(σ:H)(hs:Big s):Zh pg (d+1) 17 [.int s] σ=some (.ok (Zej s).v,σ):=by
 rw[Ul hF rfl]
 have hm:∀c:Int,c.natAbs<2^256→mulOK (s.fdiv 4) c:=fun c hc=>Zm1 (Zm2 hs 4) hc
 have k1:∀ss,execs ⟨pg,Zh pg d⟩ (.cons Zqm (.cons Zqn ss)) [some (.int s),none,none,none,none,none,none,none,none,none,none,none] σ=execs ⟨pg,Zh pg d⟩ ss [some (.int s),some (.int (Ur s)),none,none,none,none,none,none,none,none,none,none] σ:=by
  intro ss
  by_cases c:s.fmod 4=3
  ·rw[show Ur s=_ from if_pos c]
   refine Zc (Zx (σ1:=σ) (v:=.int ((s.fdiv 4).fmod 61-30)) ?_ rfl) (Zc (Z7 (Zk (Zi (Zb rfl) Zf (Zr (by decide) _)) Zf ?_) (Zv (Zx ?_ rfl))) rfl)
   ·exact Zi (Zi (Zi (Zb rfl) Zf (Zt (by decide) _)) Zf (Zr (by decide) _)) Zf (Ye _ _ _)
   ·exact congrArg some (decide_eq_true c)
   ·exact Zi (Zi (Zi (Zi (Zb rfl) Zf (Zt (by decide) _)) (Zi Zf Zf (Ju (by decide) _)) (Je (hm _ (by decide)) _)) (Zi (Zi Zf (Zi Zf Zf (Ju (by decide) _)) (Je (.inl (by decide)) _)) Zf (Ye _ _ _)) (Zr (by decide) _)) (Zi (Zi Zf Zf (Ju (by decide) _)) Zf (Ye _ _ _)) (Ye _ _ _)
  ·rw[show Ur s=_ from if_neg c]
   refine Zc (Zx (σ1:=σ) (v:=.int ((s.fdiv 4).fmod 61-30)) ?_ rfl) (Zc (Zq (Zk (Zi (Zb rfl) Zf (Zr (by decide) _)) Zf ?_) Zn) rfl)
   ·exact Zi (Zi (Zi (Zb rfl) Zf (Zt (by decide) _)) Zf (Zr (by decide) _)) Zf (Ye _ _ _)
   ·exact congrArg some (decide_eq_false c)
 have k2:∀ss,execs ⟨pg,Zh pg d⟩ (.cons Zqo (.cons Zqp ss)) [some (.int s),some (.int (Ur s)),none,none,none,none,none,none,none,none,none,none] σ=execs ⟨pg,Zh pg d⟩ ss [some (.int s),some (.int (Ur s)),some (.int (Xi s)),none,none,none,none,none,none,none,none,none] σ:=by
  intro ss
  by_cases c:(s.fdiv 3904).fmod 8=1
  ·rw[show Xi s=_ from if_pos c]
   refine Zc (Zx (σ1:=σ) (v:=.int ((s.fdiv 244).fmod 16)) ?_ rfl) (Zc (Z7 (Zk (Zi (Zi (Zb rfl) Zf (Zt (by decide) _)) Zf (Zr (by decide) _)) Zf ?_) (Zv (Zx ?_ rfl))) rfl)
   ·exact Zi (Zi (Zb rfl) Zf (Zt (by decide) _)) Zf (Zr (by decide) _)
   ·exact congrArg some (decide_eq_true c)
   ·exact Zi (Zi (Zi (Zb rfl) Zf (Zt (by decide) _)) (Zi Zf Zf (Ju (by decide) _)) (Je (hm _ (by decide)) _)) (Zi Zf Zf (Ju (by decide) _)) (Zr (by decide) _)
  ·rw[show Xi s=_ from if_neg c]
   refine Zc (Zx (σ1:=σ) (v:=.int ((s.fdiv 244).fmod 16)) ?_ rfl) (Zc (Zq (Zk (Zi (Zi (Zb rfl) Zf (Zt (by decide) _)) Zf (Zr (by decide) _)) Zf ?_) Zn) rfl)
   ·exact Zi (Zi (Zb rfl) Zf (Zt (by decide) _)) Zf (Zr (by decide) _)
   ·exact congrArg some (decide_eq_false c)
 have k3:∀ss,execs ⟨pg,Zh pg d⟩ (.cons Zqq (.cons Zqr ss)) [some (.int s),some (.int (Ur s)),some (.int (Xi s)),none,none,none,none,none,none,none,none,none] σ=execs ⟨pg,Zh pg d⟩ ss [some (.int s),some (.int (Ur s)),some (.int (Xi s)),some (.int (Zbc s)),none,none,none,none,none,none,none,none] σ:=by
  intro ss
  by_cases c:(s.fdiv 218624).fmod 8=1
  ·rw[show Zbc s=_ from if_pos c]
   refine Zc (Zx (σ1:=σ) (v:=.int ((s.fdiv 31232).fmod 7-3)) ?_ rfl) (Zc (Z7 (Zk (Zi (Zi (Zb rfl) Zf (Zt (by decide) _)) Zf (Zr (by decide) _)) Zf ?_) (Zv (Zx ?_ rfl))) rfl)
   ·exact Zi (Zi (Zi (Zb rfl) Zf (Zt (by decide) _)) Zf (Zr (by decide) _)) Zf (Ye _ _ _)
   ·exact congrArg some (decide_eq_true c)
   ·exact Zi (Zi (Zi (Zi (Zb rfl) Zf (Zt (by decide) _)) (Zi Zf Zf (Ju (by decide) _)) (Je (hm _ (by decide)) _)) (Zi (Zi Zf (Zi Zf Zf (Ju (by decide) _)) (Je (.inl (by decide)) _)) Zf (Ye _ _ _)) (Zr (by decide) _)) (Zi (Zi Zf Zf (Ju (by decide) _)) Zf (Ye _ _ _)) (Ye _ _ _)
  ·rw[show Zbc s=_ from if_neg c]
   refine Zc (Zx (σ1:=σ) (v:=.int ((s.fdiv 31232).fmod 7-3)) ?_ rfl) (Zc (Zq (Zk (Zi (Zi (Zb rfl) Zf (Zt (by decide) _)) Zf (Zr (by decide) _)) Zf ?_) Zn) rfl)
   ·exact Zi (Zi (Zi (Zb rfl) Zf (Zt (by decide) _)) Zf (Zr (by decide) _)) Zf (Ye _ _ _)
   ·exact congrArg some (decide_eq_false c)
 have k4:exec ⟨pg,Zh pg d⟩ Zqs [some (.int s),some (.int (Ur s)),some (.int (Xi s)),some (.int (Zbc s)),none,none,none,none,none,none,none,none] σ=some (.ret (Zej s).v,[some (.int s),some (.int (Ur s)),some (.int (Xi s)),some (.int (Zbc s)),none,none,none,none,none,none,none,none],σ) :=
  Z1 (Y4 (Za (Zb rfl) (Za (Z6 (Za (Zi (Zb rfl) (Zb rfl) (Z2 _ _ _)) (Za (Zi (Zi Zf Zf (Ju (by decide) _)) Zf (Ye _ _ _)) Ze)) rfl) (Za (Zb rfl) Ze))) rfl)
 show gc .pure σ (Xs (execs ⟨pg,Zh pg d⟩ B17 [some (.int s),none,none,none,none,none,none,none,none,none,none,none] σ))=_
 rw[B17,k1,k2,k3,Zp k4]
 exact Zdi rfl
theorem Z8 (a:Int){m:Int}(h:0<m):0≤a.fmod m∧a.fmod m<m:=by
 rw[Int.fmod_eq_emod_of_nonneg _ (by exact lz1 [(.zlt .k0 .v0)] (.zle .k0 .v0) (.d 111) rfl h)]
 exact ⟨Int.emod_nonneg _ (by exact lz1 [(.zlt .k0 .v0)] (.no (.zeq .v0 .k0)) (.d 1101) rfl h),Int.emod_lt_of_pos _ h⟩
theorem Zhi (s:Int) : -(10^60-1)≤Ur s∧Ur s≤10^60-1:=by
 unfold Ur
 split
 ·have:=Z8 (s.fdiv 4*48271^12) (m:=2*10^60-1) (by decide)
  omega
 ·have:=Z8 (s.fdiv 4) (m:=61) (by decide)
  omega
theorem Zfr (s:Int):0≤Xi s:=by
 unfold Xi
 split
 ·exact (Z8 _ (by decide)).1
 ·exact (Z8 _ (by decide)).1
theorem Zk4 (s:Int):(Zej s).a≤(Zej s).b:=by
 have h1:=Zhi s
 have h2:=Zfr s
 simp only[Zej]
 split <;> omega
theorem Zta {l:List Int}(hb:∀x∈l,x.natAbs<2^(2^20))(k:Nat)(c:Nat)(hc:c<65536):Big (l.getD k 0*48271+c):=by
 have hx:(l.getD k 0).natAbs<2^(2^20):=by
  rw[List.getD_eq_getElem?_getD]
  cases h:l[k]? with
  | none=>exact Nat.two_pow_pos _
  | some x=>exact hb x (List.mem_of_getElem? h)
 generalize l.getD k 0=x at hx
 generalize hE:2^20=E at hx
 have h1:(x*48271+c).natAbs≤x.natAbs*48271+c:=by
  have:=Int.natAbs_add_le (x*48271) c
  rw[Int.natAbs_mul] at this
  simpa using this
 have h2:x.natAbs*48271+c<2^(E+17):=by
  rw[Nat.pow_add]
  have h3:x.natAbs+1≤2^E:=hx
  have h4:=Nat.mul_le_mul_right (2^17) h3
  omega
 refine Nat.lt_of_le_of_lt h1 (Nat.lt_of_lt_of_le h2 (Nat.pow_le_pow_right (by decide) ?_))
 rw[← hE];decide
noncomputable def Zxr:St:=(.ife (.or (.not (.blt .isinstance (.cons .v0 (.cons (.ty 0) .nil)))) (.or (.blt .isinstance (.cons .v0 (.cons (.ty 1) .nil))) (.not (.cmp (.neg (.bin .pow (.i 10) (.i 60))) (.more .lt .v0 (.one .lt (.bin .pow (.i 10) (.i 60)))))))) (.cons (.raise 11) .nil) .nil)
noncomputable def B1:Ss:=.cons Zxr <| .nil
noncomputable def Zxs:St:=(.expr (.call 1 (.cons .v0 .nil)))
noncomputable def Zxt:St:=(.expr (.call 1 (.cons .v1 .nil)))
noncomputable def Zxu:St:=(.ife (.cmp .v0 (.one .gt .v1)) (.cons (.raise 11) .nil) .nil)
noncomputable def B2:Ss:=.cons Zxs <| .cons Zxt <| .cons Zxu <| .nil
noncomputable def Zun:St:=(.ret (.and (.blt .isinstance (.cons .v0 (.cons (.ty 0) .nil))) (.and (.cmp .v0 (.one .isnot (.lit (.bool true)))) (.cmp .v0 (.one .isnot (.lit (.bool false)))))))
noncomputable def B25:Ss:=.cons Zun <| .nil
theorem Zj {t:H}{n:Nat}{o:O}(h:σ[n]?=some o):(σ++t)[n]?=some o:=by
 rw[List.getElem?_append_left];exact h
 exact (List.getElem?_eq_some_iff.mp h).1
@[simp] theorem listOf_last (σ:H)(l:List V):Yg (σ++[.list l]) (.obj σ.length)=some l:=Zs (by simp)
@[simp] theorem items_last (σ:H)(l:List V):items (σ++[.list l]) (.obj σ.length)=some l:=Uc (by simp)
@[simp] theorem setObj_last (σ:H)(o o':O):Yi (σ++[o]) σ.length o'=σ++[o']:=by simp[Yi]
theorem Zhj {l:List V}(h:l.length<Zl)(σ:H)(x:V):W3 .append (.obj σ.length) [x] (σ++[.list l])=some (.none,σ++[.list (l++[x])]):=by
 simp[W3,X9,Zlj,h]
theorem Zm3 {body:L→H→X (Option V)}{tg:Nat}{keep:H→Prop}{v:V}{r acc:List V}{ℓ1:L}{y:Option V}(hs:Qh ℓ tg v=some ℓ1)(hb:body ℓ1 σ=some (.ok y,σ1))(hk:keep σ1)(hl:acc.length<Zl):Q9 body tg keep (v::r) acc ℓ σ=Q9 body tg keep r (acc++y.toList) ℓ1 σ1:=by
 show (Qh ℓ tg v).bind _=_
 rw[hs];exact (Zy hb).trans (if_pos ⟨hk,hl⟩)
theorem Zig {t:Nat}{v:V}(h:t<ℓ.length):Q8 (.one t) v ℓ=some (ℓ.set t (some v)):=if_pos h
set_option tactic.hygienic true in
theorem Zju {body:L→H→Y}{t:Tg}{keep:H→Prop}{v:V}{r:List V}{ℓ1 ℓ2:L}{σ2:H}(hs:Q8 t v ℓ=some ℓ1)(hb:body ℓ1 σ=some (.next,ℓ2,σ2))(hk:keep σ2):Zaf body t keep (v::r) ℓ σ=Zaf body t keep r ℓ2 σ2:=by
 show (Q8 t v ℓ).bind _=_
 rw[hs];show Zcq (body ℓ1 σ) _=_;rw[hb];exact if_pos hk
set_option tactic.hygienic true in
theorem Zm4 {body:L→H→Y}{t:Tg}{keep:H→Prop}{v:V}{r:List V}{ℓ1 ℓ2:L}{σ2:H}(hs:Q8 t v ℓ=some ℓ1)(hb:body ℓ1 σ=some (.brk,ℓ2,σ2)):Zaf body t keep (v::r) ℓ σ=some (.next,ℓ2,σ2):=by
 show (Q8 t v ℓ).bind _=_
 rw[hs];show Zcq (body ℓ1 σ) _=_;rw[hb];rfl
set_option tactic.hygienic true in
theorem Zhk {test:L→H→X V}{body:L→H→Y}{n:Nat}{ℓ2:L}{σ2:H}(ht:test ℓ σ=some (.ok (.bool true),σ1))(hb:body ℓ σ1=some (.next,ℓ2,σ2)):Wx test body (n+1) ℓ σ=Wx test body n ℓ2 σ2:=by
 refine (Q1 ht).trans ?_
 show Zcq (body ℓ σ1) _=_;rw[hb];rfl
set_option tactic.hygienic true in
theorem Zek {test:L→H→X V}{body:L→H→Y}{n:Nat}(ht:test ℓ σ=some (.ok (.bool false),σ1)):Wx test body (n+1) ℓ σ=some (.next,ℓ,σ1):=Q1 ht
theorem Zbr {α:Type}{body:L→H→X (Option V)}{tg:Nat}{keep:H→Prop}(g:α→V)(f:α→Option V)(ht:tg<ℓ.length)(hk:keep σ) :
  ∀(xs:List α) (acc:List V) (ℓ':L),ℓ'.length=ℓ.length→(∀v,ℓ'.set tg v=ℓ.set tg v)→acc.length+xs.length≤Zl→(∀x∈xs,body (ℓ.set tg (some (g x))) σ=some (.ok (f x),σ))→
   Q9 body tg keep (xs.map g) acc ℓ' σ=some (.ok (acc++xs.filterMap f),σ)
 | [],acc,ℓ',_,_,_,_=>by rw[List.filterMap_nil,List.append_nil];rfl
 | x::r,acc,ℓ',h1,h2,h3,h4=>by
  have hs:Qh ℓ' tg (g x)=some (ℓ.set tg (some (g x))):=(if_pos (h1▸ht)).trans (by rw[h2])
  simp only[List.length_cons] at h3
  rw[List.map_cons,Zm3 hs (h4 x List.mem_cons_self) hk ( by exact ln3 [(.le (.a .v0 (.a .v2 .k1)) .v1)] (.lt .v0 .v1) (.d 111) rfl h3)]
  cases hf:f x with
  | none=>rw[List.filterMap_cons_none hf,show acc++(none:Option V).toList=acc from List.append_nil _];exact Zbr g f ht hk r acc _ (by simp) (by simp) (by exact ln3 [(.le (.a .v0 (.a .v1 .k1)) .v2)] (.le (.a .v0 .v1) .v2) (.d 111) rfl h3) fun y hy=>h4 y (List.mem_cons_of_mem _ hy)
  | some v=>
   rw[List.filterMap_cons_some hf]
   have:=Zbr g f ht hk r (acc++[v]) (ℓ.set tg (some (g x))) (by simp) (by simp) (by simp;exact ln3 [(.le (.a .v0 (.a .v1 .k1)) .v2)] (.le (.a (.a .v0 .k1) .v1) .v2) (.d 111) rfl h3) fun y hy=>h4 y (List.mem_cons_of_mem _ hy)
   rw[List.append_assoc] at this
   exact this
theorem Yx {α:Type}{C:Cl}{elt:Ex}{tg:Nat}{it:It}{ifs:Es}{keep:H→Prop}{xs:List α}(g:α→V)(f:α→Option V)(hi:Wy C it ℓ σ=some (.ok ⟨xs.map g,keep⟩,σ1))(hk:keep σ1)(ht:tg<ℓ.length)(hl:xs.length≤Zl)
  (hb:∀x∈xs,bok (Ji C ifs (ℓ.set tg (some (g x))) σ1) (fun b σ2=>if b then bok (Zg C elt (ℓ.set tg (some (g x))) σ2) fun v σ3=>some (.ok (some v),σ3) else some (.ok .none,σ2))=some (.ok (f x),σ1)) :
  Zg C (.comp elt tg it ifs) ℓ σ=some (.ok (.obj σ1.length),σ1++[.list (xs.filterMap f)]):=by
 refine (Zy hi).trans ?_
 rw[Zbr g f ht hk xs [] ℓ rfl (fun u_=>rfl) (by simpa using hl) hb]
 simp
set_option tactic.hygienic true in
theorem Wv {α:Type}{body:L→H→Y}{t:Nat}{keep:H→Prop}(g:α→V)(I:List α→L→H→Prop)(J:L→H→Prop)(h0:∀ℓ σ,I [] ℓ σ→J ℓ σ)
  (hs:∀x r ℓ σ,I (x::r) ℓ σ→t<ℓ.length∧((∃ℓ2 σ2,body (ℓ.set t (some (g x))) σ=some (.next,ℓ2,σ2)∧keep σ2∧I r ℓ2 σ2)∨∃ℓ2 σ2,body (ℓ.set t (some (g x))) σ=some (.brk,ℓ2,σ2)∧J ℓ2 σ2)) :
  ∀(xs:List α) (ℓ:L) (σ:H),I xs ℓ σ→∃ℓ' σ',Zaf body (.one t) keep (xs.map g) ℓ σ=some (.next,ℓ',σ')∧J ℓ' σ'
 | [],ℓ,σ,h=>⟨ℓ,σ,rfl,h0 ℓ σ h⟩
 | x::r,ℓ,σ,h=>by
  obtain ⟨ht,h1 | h1⟩:=hs x r ℓ σ h
  ·revert h1;refine Ym fun ℓ2 σ2 e k i=>?_
   refine Jz (fun ℓ' σ' e' j=>?_) (Wv g I J h0 hs r ℓ2 σ2 i)
   exact ⟨ℓ',σ',(Zju (Zig ht) e k).trans e',j⟩
  ·revert h1;refine Jz fun ℓ2 σ2 e j=>?_
   exact ⟨ℓ2,σ2,Zm4 (Zig ht) e,j⟩
theorem Xj {C:Cl}{t:Nat}{it:It}{b:Ss}{src:Src}(h:Wy C it ℓ σ=some (.ok src,σ1)):exec C (.for_ (.one t) it b) ℓ σ=Zaf (execs C b) (.one t) src.keep src.vs ℓ σ1:=Q1 h
theorem Jc {C:Cl}{e:Ex}{n:Nat}{l:List V}(he:Zg C e ℓ σ=some (.ok (.obj n),σ1))(hn:σ1[n]?=some (.list l)):Wy C (.ex e) ℓ σ=some (.ok ⟨l,fun σ'=>σ'[n]?=some (.list l)⟩,σ1):=by
 refine (Zy he).trans ?_
 show (match σ1[n]? with | some (O.list l)=>some (R.ok (Src.mk l fun σ'=>σ'[n]?=some (O.list l)),σ1) | _=>Option.none)=_
 rw[hn]
theorem Zpp {C:Cl}{a b:Ex}{σ2:H}{x y:Int}(ha:Zg C a ℓ σ=some (.ok (.int x),σ1))(hb:Zg C b ℓ σ1=some (.ok (.int y),σ2))(h:(-Zl≤x∧x≤Zl)∧(-Zl≤y∧y≤Zl)):Wy C (.rng2 a b) ℓ σ=some (.ok ⟨Zll x y,fun u_=>True⟩,σ2) :=
 (Zy ha).trans ((Zy hb).trans (if_pos h))
theorem Zbs {C:Cl}{e:Ex}{n:Nat}(he:Zg C e ℓ σ=some (.ok (.int n),σ1))(hn:n≤Zl):Wy C (.rng1 e) ℓ σ=some (.ok ⟨(List.range n).map (fun k=>V.int (k:Nat)),fun u_=>True⟩,σ1):=by
 refine (Zy he).trans ?_
 refine (if_pos (by exact ln2 [(.le .v1 .v0)] (.an (.zle (.g (.n .v0)) (.n .v1)) (.zle (.n .v1) (.n .v0))) (.s (.d 11) (.d 111)) rfl hn)).trans ?_
 simp[Zll]
theorem Zdj (f:Nat)(σ:H):∀is:List Int,(is.map V.int).mapM (toD (f+1) σ)=some (is.map PyData.int)
 | []=>rfl
 | i::r=>by simp only[List.map_cons,List.mapM_cons,Zdj f σ r];rfl
theorem Zbd (f:Nat)(σ:H)(is:List Int):toD (f+2) σ (.tup (is.map V.int))=some (.tuple (is.map PyData.int)):=by
 show ((is.map V.int).mapM (toD (f+1) σ)).map PyData.tuple=_
 rw[Zdj];rfl
theorem X4:∀is js:List Int,PyData.eqvAll (is.map .int) (js.map .int)=decide (is=js)
 | [],[]=>rfl
 | [],_::_=>rfl
 | _::_,[]=>rfl
 | i::r,j::s=>by
  show ((i == j)&&PyData.eqvAll (r.map .int) (s.map .int))=_
  rw[X4 r s]
  by_cases c:i=j <;> by_cases c':r=s <;> simp[c,c']
theorem Zpq (σ:H)(is js:List Int):eqV σ (.tup (is.map .int)) (.tup (js.map .int))=some (decide (is=js)):=by
 unfold eqV
 rw[Zbd,Zbd]
 show some (PyData.eqvAll (is.map .int) (js.map .int))=_
 rw[X4]
theorem Zm5 {pg:Pg}(hF:pg.fn 25=some ⟨[0],9,B25,.pure⟩)(d:Nat)(i:Int)(σ:H):Zh pg (d+1) 25 [.int i] σ=some (.ok (.bool true),σ):=by
 exact Yz hF rfl (Zp (Z1 (U3 (Z6 (Za (Zb rfl) (Za Zmv Ze)) rfl) (U3 (Zk (Zb rfl) Zf rfl) (Zk (Zb rfl) Zf rfl))))) rfl
theorem Ztb {α:Type}{C:Cl}{elt:Ex}{ifs:Es}{v:V}(h:Ji C ifs ℓ σ=some (.ok true,σ))(he:Zg C elt ℓ σ=some (.ok v,σ)) :
  bok (Ji C ifs ℓ σ) (fun b σ2=>if b then bok (Zg C elt ℓ σ2) fun v σ3=>some (.ok (some v),σ3) else some (.ok .none,σ2))=some (.ok (some v),σ):=(Zy h).trans (Zy he)
theorem Zcb {C:Cl}{elt:Ex}{ifs:Es}{v:V}{p:Bool}(h:Ji C ifs ℓ σ=some (.ok p,σ))(he:Zg C elt ℓ σ=some (.ok v,σ)) :
  bok (Ji C ifs ℓ σ) (fun b σ2=>if b then bok (Zg C elt ℓ σ2) fun v σ3=>some (.ok (some v),σ3) else some (.ok .none,σ2))=some (.ok (if p then some v else none),σ):=by
 cases p with
 | true=>exact (Zy h).trans (Zy he)
 | false=>exact Zy h
noncomputable def nth (l:List Int)(k:Nat):Int:=l.getD k 0
noncomputable def Z0 (ll:List (List Int)):List V:=ll.map fun is=>V.tup (is.map .int)
theorem We {n:Nat}{l:List V}(h:σ[n]?=some (.list l)){k:Nat}(hk:k<l.length):Yo σ (.obj n) (.int k)=some l[k]:=by
 simp only[Yo,Zeh,Option.bind_some,Uc h,Zco]
 rw[if_pos (by exact ln1 [] (.zle .k0 (.n .v0)) (.d 11) rfl),if_pos (by exact ln2 [(.lt .v0 .v1)] (.zlt (.n .v0) (.n .v1)) (.d 111) rfl hk)]
 simp[hk]
@[simp] theorem Yn (σ:H)(x:T3):Yo σ x.v (.int 0)=some (.int x.a):=rfl
@[simp] theorem Y2 (σ:H)(x:T3):Yo σ x.v (.int 1)=some (.int x.b):=rfl
@[simp] theorem Zk5 (σ:H)(x:T3):Yo σ x.v (.int 2)=some (.int x.c):=rfl
@[simp] theorem Zel (σ:H)(x y:V):Yo σ (.tup [x,y]) (.int 0)=some x:=rfl
@[simp] theorem getIdx_p1 (σ:H)(x y:V):Yo σ (.tup [x,y]) (.int 1)=some y:=rfl
theorem T3.v_tups (ts:List T3):ts.map T3.v=Z0 (ts.map fun t=>[t.a,t.b,t.c]):=by simp[Z0,T3.v]
theorem Jd (n:Nat):∀ts:List T3,belows n (ts.map T3.v)=true
 | []=>rfl
 | t::r=>X8 (T3.below_v n t) (Jd n r)
theorem Zem (n:Nat):∀is:List Int,belows n (is.map V.int)=true
 | []=>rfl
 | t::r=>X8 rfl (Zem n r)
theorem Ww (n:Nat):∀ll:List (List Int),belows n (Z0 ll)=true
 | []=>rfl
 | t::r=>X8 (Zem n t) (Ww n r)
theorem Zjv:∀ts:List T3,t3s (ts.map T3.v)=some ts
 | []=>rfl
 | t::r=>by
  show (Zoe t.v).bind (fun t=>(t3s (r.map T3.v)).map (t::·))=_
  rw[Zjv r];rfl
theorem Zm6 (ts:List T3):Q7 (ts.map T3.v)=some ((ts.mergeSort T3.le).map T3.v):=by
 unfold Q7
 cases ts with
 | nil=>show some ((([]:List Int).mergeSort _).map V.int)=some ((([]:List T3).mergeSort T3.le).map T3.v);rw[List.mergeSort_nil,List.mergeSort_nil];rfl
 | cons t r=>rw[show Ue ((t::r).map T3.v)=.none from rfl,Zjv];rfl
theorem Zdk {pg:Pg}(hF:pg.fn 1=some ⟨[0],9,B1,.pure⟩)(d:Nat)(i:Int)(h1 : -10^60<i)(h2:i<10^60)(σ:H):Zh pg (d+1) 1 [.int i] σ=some (.ok .none,σ):=by
 have hc:(decide (-10^60<i)&&decide (i<10^60))=true:=by rw[decide_eq_true h1,decide_eq_true h2];rfl
 have hc':Zg ⟨pg,Zh pg d⟩ (Ex.cmp (Ex.neg (Ex.bin Bop.pow (Ex.lit (V.int 10)) (Ex.lit (V.int 60)))) (Ch.more Cop.lt (Ex.var 0) (Ch.one Cop.lt (Ex.bin Bop.pow (Ex.lit (V.int 10)) (Ex.lit (V.int 60)))))) [some (.int i),none,none,none,none,none,none,none,none] σ=some (.ok (.bool true),σ):=by
  rw[← hc]
  exact Zbo (Zqk (Zi Zf Zf (Ju (by decide) _))) (Zb rfl) (Zi Zf Zf (Ju (by decide) _)) rfl rfl
 exact Zmy hF rfl (Zv (Zq (Wu (Zbq (Z6 (Za (Zb rfl) (Za Zmv Ze)) rfl)) (Wu (Z6 (Za (Zb rfl) (Za Zmv Ze)) rfl) (Zbq hc'))) Zn))
theorem Zfs {pg:Pg}(h1:pg.fn 1=some ⟨[0],9,B1,.pure⟩)(hF:pg.fn 2=some ⟨[0,1],10,B2,.pure⟩)(d:Nat)(lo hi:Int)(hl : -10^60<lo)(hle:lo≤hi)(hh:hi<10^60)(σ:H):Zh pg (d+2) 2 [.int lo,.int hi] σ=some (.ok .none,σ):=by
 exact Zmy hF rfl (Zc (Y7 (Zo (Za (Zb rfl) Ze) (Zdk h1 d lo hl (by exact lz3 [(.zle .v0 .v2),(.zlt .v2 .v1)] (.zlt .v0 .v1) (.d 1111) rfl hle hh) σ))) (Zc (Y7 (Zo (Za (Zb rfl) Ze) (Zdk h1 d hi (by exact lz3 [(.zlt (.g .v0) .v2),(.zle .v2 .v1)] (.zlt (.g .v0) .v1) (.d 1111) rfl hl hle) hh σ))) (Zv (Zq (Zk (Zb rfl) (Zb rfl) (gtF (by exact lz2 [(.zle .v1 .v0)] (.no (.zlt .v0 .v1)) (.d 111) rfl hle))) Zn))))
theorem Wn:∀l:List Int,Ue (l.map V.int)=some l
 | []=>rfl
 | x::r=>by show (Ue (r.map V.int)).map (_::·)=_;rw[Wn r];rfl
theorem Yp {α:Type}(p:α→Bool)(g:α→V):∀l:List α,l.filterMap (fun x=>if p x then some (g x) else none)=(l.filter p).map g
 | []=>rfl
 | x::r=>by
  by_cases c:p x=true
  ·rw[List.filterMap_cons_some (b:=g x) (by rw[if_pos c]),List.filter_cons_of_pos c,List.map_cons,Yp p g r]
  ·rw[List.filterMap_cons_none (by rw[if_neg c]),List.filter_cons_of_neg c,Yp p g r]
inductive Tr where
 | nil
 | node (x:T3) (l r:Tr)
 deriving DecidableEq
noncomputable def mx (x y:Int):Int:=if x<y then y else x
noncomputable def Tr.ht:Tr→Int
 | .nil=>0
 | .node _ l r=>1+mx l.ht r.ht
noncomputable def Tr.isNil:Tr→Bool
 | .nil=>true
 | .node ..=>false
noncomputable def Tr.rc:Tr→Int
 | .nil=>0
 | .node x l r=>let a:=if l.isNil then x.b else mx x.b l.rc;if r.isNil then a else mx a r.rc
noncomputable def Tr.v:Tr→V
 | .nil=>.none
 | .node x l r=>.tup [x.v,l.v,r.v,.int (1+mx l.ht r.ht),.int (Tr.node x l r).rc]
noncomputable def Tr.tl:Tr→List T3
 | .nil=>[]
 | .node x l r=>l.tl++x::r.tl
noncomputable def Tr.sz:Tr→Nat
 | .nil=>0
 | .node _ l r=>l.sz+r.sz+1
theorem Tr.ht_0:Tr.nil.ht=0:=rfl
theorem Tr.ht_1 {x:T3}{l r:Tr}:(Tr.node x l r).ht=1+mx l.ht r.ht:=rfl
theorem Tr.tl_0:Tr.nil.tl=[]:=rfl
theorem Tr.tl_1 {x:T3}{l r:Tr}:(Tr.node x l r).tl=l.tl++x::r.tl:=rfl
theorem Tr.sz_0:Tr.nil.sz=0:=rfl
theorem Tr.sz_1 {x:T3}{l r:Tr}:(Tr.node x l r).sz=l.sz+r.sz+1:=rfl
theorem Tr.sz_tl:∀t:Tr,t.tl.length=t.sz
 | .nil=>rfl
 | .node x l r=>by simp only[Tr.tl_0,Tr.tl_1,Tr.sz_0,Tr.sz_1,List.length_append,List.length_cons,Tr.sz_tl l,Tr.sz_tl r];exact ln2 [] (.eq (.a .v0 (.a .v1 .k1)) (.a (.a .v0 .v1) .k1)) (.s (.d 11) (.d 11)) rfl
theorem Tr.ht_nn:∀t:Tr,0≤t.ht
 | .nil=>by simp[Tr.ht_0,Tr.ht_1]
 | .node x l r=>by have:=Tr.ht_nn l;have:=Tr.ht_nn r;simp only[Tr.ht_0,Tr.ht_1,mx];split <;> lia
theorem Tr.v_below (n:Nat):∀t:Tr,below n t.v=true
 | .nil=>rfl
 | .node x l r=>by
  show belows n _=true
  exact X8 (T3.below_v n x) (X8 (Tr.v_below n l) (X8 (Tr.v_below n r) (X8 rfl (X8 rfl rfl))))
noncomputable def Tr.rotL (x:T3)(l r:Tr):Tr:=match l with
 | .nil=>.nil
 | .node y a b=>if b.ht≤a.ht then .node y a (.node x b r) else match b with
  | .nil=>.nil
  | .node z c d=>.node z (.node y a c) (.node x d r)
noncomputable def Tr.rotR (x:T3)(l r:Tr):Tr:=match r with
 | .nil=>.nil
 | .node y a b=>if a.ht≤b.ht then .node y (.node x l a) b else match a with
  | .nil=>.nil
  | .node z c d=>.node z (.node x l c) (.node y d b)
noncomputable def Tr.bal (x:T3)(l r:Tr):Tr:=if r.ht+1<l.ht then Tr.rotL x l r else if l.ht+1<r.ht then Tr.rotR x l r else .node x l r
set_option tactic.hygienic true in
theorem Tr.tl_rotL {x:T3}{l r:Tr}(h:r.ht+1<l.ht):(Tr.rotL x l r).tl=l.tl++x::r.tl:=by
 have hr:=r.ht_nn
 cases l with
 | nil=>simp only[Tr.ht_0,Tr.ht_1] at h;lia
 | node y a b=>
  unfold Tr.rotL;dsimp only
  split
  ·simp[Tr.tl_0,Tr.tl_1]
  ·rename_i c
   cases b with
   | nil=>have:=a.ht_nn;simp only[Tr.ht_0,Tr.ht_1] at c;lia
   | node z c d=>simp[Tr.tl_0,Tr.tl_1]
set_option tactic.hygienic true in
theorem Tr.tl_rotR {x:T3}{l r:Tr}(h:l.ht+1<r.ht):(Tr.rotR x l r).tl=l.tl++x::r.tl:=by
 have hr:=l.ht_nn
 cases r with
 | nil=>simp only[Tr.ht_0,Tr.ht_1] at h;lia
 | node y a b=>
  unfold Tr.rotR;dsimp only
  split
  ·simp[Tr.tl_0,Tr.tl_1]
  ·rename_i c
   cases a with
   | nil=>have:=b.ht_nn;simp only[Tr.ht_0,Tr.ht_1] at c;lia
   | node z c d=>simp[Tr.tl_0,Tr.tl_1]
set_option tactic.hygienic true in
theorem Tr.tl_bal (x:T3)(l r:Tr):(Tr.bal x l r).tl=l.tl++x::r.tl:=by
 unfold Tr.bal
 split
 ·rename_i h;exact Tr.tl_rotL h
 ·split
  ·rename_i h;exact Tr.tl_rotR h
  ·rfl
noncomputable def T3.lt (x y:T3):Bool:=decide (x.a<y.a)||(decide (x.a=y.a)&&(decide (x.b<y.b)||(decide (x.b=y.b)&&decide (x.c<y.c))))
theorem T3.lt_iff {x y:T3}:T3.lt x y=true↔(x.a<y.a∨(x.a=y.a∧(x.b<y.b∨(x.b=y.b∧x.c<y.c)))):=by simp[T3.lt]
theorem T3.eq_iff {x y:T3}:x=y↔(x.a=y.a∧x.b=y.b∧x.c=y.c):=⟨fun e=>e▸⟨rfl,rfl,rfl⟩,fun h=>by cases x;cases y;revert h;refine rAA fun h1 h2 h3=>?_;cases h1;cases h2;cases h3;rfl⟩
theorem T3.lt_tri (x y:T3):T3.lt x y=true∨x=y∨T3.lt y x=true:=by
 rw[T3.lt_iff,T3.lt_iff,T3.eq_iff];exact lz6 [] (.or (.or (.zlt .v0 .v1) (.an (.zeq .v0 .v1) (.or (.zlt .v2 .v3) (.an (.zeq .v2 .v3) (.zlt .v4 .v5))))) (.or (.an (.zeq .v0 .v1) (.an (.zeq .v2 .v3) (.zeq .v4 .v5))) (.or (.zlt .v1 .v0) (.an (.zeq .v1 .v0) (.or (.zlt .v3 .v2) (.an (.zeq .v3 .v2) (.zlt .v5 .v4))))))) (.s (.s (.s (.s (.s (.s (.d 111) (.d 111)) (.s (.s (.d 111) (.d 111)) (.d 111))) (.s (.s (.d 111) (.d 111)) (.s (.s (.d 111) (.d 111)) (.d 111)))) (.s (.s (.s (.s (.d 111) (.d 111)) (.s (.s (.d 111) (.d 111)) (.d 111))) (.s (.s (.d 111) (.d 111)) (.s (.s (.d 111) (.d 111)) (.d 111)))) (.s (.s (.s (.d 111) (.d 111)) (.s (.s (.d 111) (.d 111)) (.d 111))) (.s (.s (.d 111) (.d 111)) (.s (.s (.d 111) (.d 111)) (.d 111)))))) (.s (.s (.s (.s (.d 1011) (.d 1011)) (.s (.s (.d 1011) (.d 1011)) (.d 1011))) (.s (.s (.d 10101) (.d 10101)) (.s (.s (.d 10101) (.d 10101)) (.d 10101)))) (.s (.s (.s (.s (.d 10101) (.d 10101)) (.s (.s (.d 10101) (.d 10101)) (.d 10101))) (.s (.s (.d 10101) (.d 10101)) (.s (.s (.d 10101) (.d 10101)) (.d 10101)))) (.s (.s (.s (.d 10101) (.d 10101)) (.s (.s (.d 10101) (.d 10101)) (.d 10101))) (.s (.s (.d 10101) (.d 10101)) (.s (.s (.d 10101) (.d 10101)) (.d 10101))))))) (.s (.s (.s (.s (.s (.s (.d 1011) (.d 1011)) (.s (.s (.d 1011) (.d 1011)) (.d 1011))) (.s (.s (.d 1011) (.d 1011)) (.s (.s (.d 1011) (.d 1011)) (.d 1011)))) (.s (.s (.s (.s (.d 1011) (.d 1011)) (.s (.s (.d 1011) (.d 1011)) (.d 1011))) (.s (.s (.d 1011) (.d 1011)) (.s (.s (.d 1011) (.d 1011)) (.d 1011)))) (.s (.s (.s (.d 1011) (.d 1011)) (.s (.s (.d 1011) (.d 1011)) (.d 1011))) (.s (.s (.d 1011) (.d 1011)) (.s (.s (.d 1011) (.d 1011)) (.d 1011)))))) (.s (.s (.s (.s (.d 11001) (.d 11001)) (.s (.s (.d 11001) (.d 11001)) (.d 11001))) (.s (.s (.d 100011) (.d 100011)) (.s (.s (.d 100011) (.d 100011)) (.d 100011)))) (.s (.s (.s (.s (.d 10011) (.d 10011)) (.s (.s (.d 10011) (.d 10011)) (.d 10011))) (.s (.s (.d 1000011) (.d 1100001)) (.s (.s (.d 1001001) (.d 1001001)) (.d 1001001)))) (.s (.s (.s (.d 1000011) (.d 1100001)) (.s (.s (.d 1001001) (.d 1001001)) (.d 1001001))) (.s (.s (.d 1000011) (.d 1100001)) (.s (.s (.d 1001001) (.d 1001001)) (.d 1001001))))))) (.s (.s (.s (.s (.d 11001) (.d 11001)) (.s (.s (.d 11001) (.d 11001)) (.d 11001))) (.s (.s (.d 100011) (.d 100011)) (.s (.s (.d 100011) (.d 100011)) (.d 100011)))) (.s (.s (.s (.s (.d 10101) (.d 10101)) (.s (.s (.d 10101) (.d 10101)) (.d 10101))) (.s (.s (.d 1000011) (.d 1100001)) (.s (.s (.d 1000101) (.d 1000101)) (.d 1000101)))) (.s (.s (.s (.d 10011) (.d 10011)) (.s (.s (.d 10011) (.d 10011)) (.d 10011))) (.s (.s (.d 1000011) (.d 1100001)) (.s (.s (.d 10000011) (.d 10100001)) (.d 10001001)))))))) rfl
theorem T3.lt_irr (x:T3):¬ T3.lt x x=true:=by rw[T3.lt_iff];exact lz3 [] (.no (.or (.zlt .v0 .v0) (.an (.zeq .v0 .v0) (.or (.zlt .v1 .v1) (.an (.zeq .v1 .v1) (.zlt .v2 .v2)))))) (.s (.d 11) (.s (.d 1001) (.d 100001))) rfl
theorem T3.lt_trans {x y z:T3}(h1:T3.lt x y=true)(h2:T3.lt y z=true):T3.lt x z=true:=by
 rw[T3.lt_iff] at *;exact lin [(.or (.zlt .v0 .v6) (.an (.zeq .v0 .v6) (.or (.zlt .v2 .v7) (.an (.zeq .v2 .v7) (.zlt .v4 .v8))))),(.or (.zlt .v6 .v1) (.an (.zeq .v6 .v1) (.or (.zlt .v7 .v3) (.an (.zeq .v7 .v3) (.zlt .v8 .v5)))))] (.or (.zlt .v0 .v1) (.an (.zeq .v0 .v1) (.or (.zlt .v2 .v3) (.an (.zeq .v2 .v3) (.zlt .v4 .v5))))) (.s (.s (.s (.s (.d 111) (.s (.d 111) (.d 111))) (.s (.s (.d 111) (.s (.d 111) (.d 111))) (.s (.d 111) (.s (.d 111) (.d 111))))) (.s (.s (.d 10111) (.s (.d 10111) (.d 10111))) (.s (.s (.d 1011001) (.s (.d 1011001) (.d 1011001))) (.s (.d 101100001) (.s (.d 101100001) (.d 101100001)))))) (.s (.s (.s (.s (.d 1011) (.s (.d 1011) (.d 1011))) (.s (.s (.d 1011) (.s (.d 1011) (.d 1011))) (.s (.d 1011) (.s (.d 1011) (.d 1011))))) (.s (.s (.d 110011) (.s (.d 110011) (.d 110011))) (.s (.s (.d 11001001) (.s (.d 1001001001) (.d 1001001001))) (.s (.d 1100100001) (.s (.d 100100100001) (.d 100100100001)))))) (.s (.s (.d 110011) (.s (.d 110011) (.d 110011))) (.s (.s (.d 11001001) (.s (.d 1010001001) (.d 1010001001))) (.s (.d 1100100001) (.s (.d 101000100001) (.d 10010000100001))))))) rfl [] [_,_,_,_,_,_,_,_,_] h1 h2
noncomputable def Tr.ins (x:T3):Tr→Option Tr
 | .nil=>some (.node x .nil .nil)
 | .node y l r=>if x=y then none else if T3.lt x y then (Tr.ins x l).map fun l'=>Tr.bal y l' r else (Tr.ins x r).map fun r'=>Tr.bal y l r'
noncomputable def Tr.least:Tr→T3→T3
 | .nil,x=>x
 | .node y l _,_=>Tr.least l y
noncomputable def Tr.del (x:T3):Tr→Option Tr
 | .nil=>none
 | .node y l r=>if T3.lt x y then (Tr.del x l).map fun l'=>Tr.bal y l' r else if T3.lt y x then (Tr.del x r).map fun r'=>Tr.bal y l r'
  else if l.isNil then some r else if r.isNil then some l else (Tr.del (r.least x) r).map fun r'=>Tr.bal (r.least x) l r'
theorem Tr.ins_1 {x y:T3}{l r:Tr}:Tr.ins x (.node y l r)=if x=y then none else if T3.lt x y then (Tr.ins x l).map fun l'=>Tr.bal y l' r else (Tr.ins x r).map fun r'=>Tr.bal y l r':=rfl
theorem Tr.least_1 {x y:T3}{l r:Tr}:Tr.least (.node y l r) x=Tr.least l y:=rfl
theorem Tr.least_0 {x:T3}:Tr.least .nil x=x:=rfl
theorem Tr.del_1 {x y:T3}{l r:Tr}:Tr.del x (.node y l r)=if T3.lt x y then (Tr.del x l).map fun l'=>Tr.bal y l' r else if T3.lt y x then (Tr.del x r).map fun r'=>Tr.bal y l r'
  else if l.isNil then some r else if r.isNil then some l else (Tr.del (r.least x) r).map fun r'=>Tr.bal (r.least x) l r':=rfl
noncomputable def Srt3 (l:List T3):Prop:=l.Pairwise fun x y=>T3.lt x y=true
theorem Srt3.node {a b:List T3}{x:T3}:Srt3 (a++x::b)↔(Srt3 a∧Srt3 b∧(∀y∈a,T3.lt y x=true)∧∀y∈b,T3.lt x y=true):=by
 unfold Srt3
 rw[List.pairwise_append,List.pairwise_cons]
 constructor
 ·intro hR0
  revert hR0;refine rAA fun h1 hO1 h4=>?_;obtain ⟨h2,h3⟩:=hO1
  exact ⟨h1,h3,fun y hy=>h4 y hy x (by simp),h2⟩
 ·intro hR0
  revert hR0;refine Zb8 fun h1 h2 h3 h4=>?_
  refine ⟨h1,⟨h4,h2⟩,fun y hy z hz=>?_⟩
  rcases List.mem_cons.mp hz with rfl | hz
  ·exact h3 y hy
  ·exact T3.lt_trans (h3 y hy) (h4 z hz)
theorem Srt3.eq:∀{a b:List T3},Srt3 a→Srt3 b→(∀x,x∈a↔x∈b)→a=b
 | [],[],_,_,_=>rfl
 | [],y::b,_,_,h=>by have:=(h y).mpr (by simp);simp at this
 | x::a,[],_,_,h=>by have:=(h x).mp (by simp);simp at this
 | x::a,y::b,h1,h2,h=>by
  unfold Srt3 at h1 h2
  rw[List.pairwise_cons] at h1 h2
  have e:x=y:=by
   rcases List.mem_cons.mp ((h x).mp (by simp)) with e | hx
   ·exact e
   rcases List.mem_cons.mp ((h y).mpr (by simp)) with e | hy
   ·exact e.symm
   exact absurd (T3.lt_trans (h1.1 y hy) (h2.1 x hx)) (T3.lt_irr _)
  subst e
  have:a=b:=Srt3.eq h1.2 h2.2 fun z=>by
   constructor
   ·intro hz
    rcases List.mem_cons.mp ((h z).mp (by simp[hz])) with rfl | hb
    ·exact absurd (h1.1 _ hz) (T3.lt_irr _)
    ·exact hb
   ·intro hz
    rcases List.mem_cons.mp ((h z).mpr (by simp[hz])) with rfl | hb
    ·exact absurd (h2.1 _ hz) (T3.lt_irr _)
    ·exact hb
  rw[this]
theorem Tr.ins_ok (x:T3):∀{t:Tr},Srt3 t.tl→(Tr.ins x t=none∧x∈t.tl)∨∃t',Tr.ins x t=some t'∧x ∉ t.tl∧Srt3 t'.tl∧∀y,y∈t'.tl↔y=x∨y∈t.tl
 | .nil,_=>.inr ⟨_,rfl,by simp[Tr.tl_0,Tr.tl_1],by simp[Tr.tl_0,Tr.tl_1,Srt3],by simp[Tr.tl_0,Tr.tl_1]⟩
 | .node y l r,h=>by
  refine Zb8 (fun hl hr h1 h2=>?_) (Srt3.node.mp h)
  by_cases c:x=y
  ·subst c;exact .inl ⟨if_pos rfl,by simp[Tr.tl_0,Tr.tl_1]⟩
  by_cases d:T3.lt x y=true
  ·have e:Tr.ins x (.node y l r)=(Tr.ins x l).map fun l'=>Tr.bal y l' r:=by rw[Tr.ins_1,if_neg c,if_pos d]
   rcases Tr.ins_ok x hl with ⟨i1,i2⟩ | ⟨t',i1,i2,i3,i4⟩
   ·exact .inl ⟨by rw[e,i1];rfl,by simp[Tr.tl_0,Tr.tl_1,i2]⟩
   ·refine .inr ⟨_,by rw[e,i1];rfl,fun hm=>?_,?_,fun z=>?_⟩
    ·rcases List.mem_append.mp hm with hm | hm
     ·exact i2 hm
     ·rcases List.mem_cons.mp hm with hm | hm
      ·exact c hm
      ·exact T3.lt_irr _ (T3.lt_trans d (h2 _ hm))
    ·rw[Tr.tl_bal,Srt3.node]
     refine ⟨i3,hr,fun z hz=>?_,h2⟩
     rcases (i4 z).mp hz with rfl | hz
     ·exact d
     ·exact h1 z hz
    ·rw[Tr.tl_bal];simp only[Tr.tl_0,Tr.tl_1,List.mem_append,List.mem_cons,i4 z,or_assoc]
  ·have d' : T3.lt y x = true := by
    rcases T3.lt_tri x y with h | h | h
    ·exact absurd h d
    ·exact absurd h c
    ·exact h
   have e:Tr.ins x (.node y l r)=(Tr.ins x r).map fun r'=>Tr.bal y l r':=by rw[Tr.ins_1,if_neg c,if_neg d]
   rcases Tr.ins_ok x hr with ⟨i1,i2⟩ | ⟨t',i1,i2,i3,i4⟩
   ·exact .inl ⟨by rw[e,i1];rfl,by simp[Tr.tl_0,Tr.tl_1,i2]⟩
   ·refine .inr ⟨_,by rw[e,i1];rfl,fun hm=>?_,?_,fun z=>?_⟩
    ·rcases List.mem_append.mp hm with hm | hm
     ·exact T3.lt_irr _ (T3.lt_trans d' (h1 _ hm))
     ·rcases List.mem_cons.mp hm with hm | hm
      ·exact c hm
      ·exact i2 hm
    ·rw[Tr.tl_bal,Srt3.node]
     refine ⟨hl,i3,h1,fun z hz=>?_⟩
     rcases (i4 z).mp hz with rfl | hz
     ·exact d'
     ·exact h2 z hz
    ·rw[Tr.tl_bal];simp only[Tr.tl_0,Tr.tl_1,List.mem_append,List.mem_cons,i4 z];constructor
     ·rintro (h | h | h | h) <;> simp[h]
     ·rintro (h | h | h | h) <;> simp[h]
theorem Tr.least_ok:∀(t:Tr) (x:T3),t.isNil=false→Srt3 t.tl→t.least x∈t.tl∧∀y∈t.tl,y≠t.least x→T3.lt (t.least x) y=true
 | .nil,_,h,_=>by exact tf h
 | .node y l r,x,_,hs=>by
  refine Zb8 (fun hl hr h1 h2=>?_) (Srt3.node.mp hs)
  show Tr.least l y∈l.tl++y::r.tl∧∀z∈l.tl++y::r.tl,z≠Tr.least l y→_
  cases hn:l.isNil with
  | true=>
   cases l with
   | node _ _ _=>exact ft hn
   | nil=>
    refine ⟨by simp[Tr.least_0,Tr.least_1],fun z hz hne=>?_⟩
    rcases List.mem_append.mp hz with h | h
    ·simp[Tr.tl_0,Tr.tl_1] at h
    ·rcases List.mem_cons.mp h with h | h
     ·exact absurd h hne
     ·exact h2 z h
  | false=>
   refine rA (fun i1 i2=>?_) (Tr.least_ok l y hn hl)
   refine ⟨List.mem_append_left _ i1,fun z hz hne=>?_⟩
   rcases List.mem_append.mp hz with h | h
   ·exact i2 z h hne
   ·rcases List.mem_cons.mp h with h | h
    ·subst h;exact h1 _ i1
    ·exact T3.lt_trans (h1 _ i1) (h2 z h)
theorem Tr.del_ok:∀{t:Tr} (x:T3),Srt3 t.tl→(Tr.del x t=none∧x ∉ t.tl)∨∃t',Tr.del x t=some t'∧x∈t.tl∧Srt3 t'.tl∧∀y,y∈t'.tl↔(y≠x∧y∈t.tl)
 | .nil,x,_=>.inl ⟨rfl,by simp[Tr.tl_0,Tr.tl_1]⟩
 | .node y l r,x,h=>by
  refine Zb8 (fun hl hr h1 h2=>?_) (Srt3.node.mp h)
  by_cases d:T3.lt x y=true
  ·have e:Tr.del x (.node y l r)=(Tr.del x l).map fun l'=>Tr.bal y l' r:=by rw[Tr.del_1,if_pos d]
   have hy:y≠x:=fun e=>by subst e;exact T3.lt_irr _ d
   have hxr:∀z∈r.tl,z≠x:=fun z hz e=>by subst e;exact T3.lt_irr _ (T3.lt_trans d (h2 _ hz))
   rcases Tr.del_ok x hl with ⟨i1,i2⟩ | ⟨t',i1,i2,i3,i4⟩
   ·refine .inl ⟨by rw[e,i1];rfl,fun hm=>?_⟩
    rcases List.mem_append.mp hm with hm | hm
    ·exact i2 hm
    ·rcases List.mem_cons.mp hm with hm | hm
     ·exact hy hm.symm
     ·exact hxr _ hm rfl
   ·refine .inr ⟨_,by rw[e,i1];rfl,List.mem_append_left _ i2,?_,fun z=>?_⟩
    ·rw[Tr.tl_bal,Srt3.node];exact ⟨i3,hr,fun z hz=>h1 z ((i4 z).mp hz).2,h2⟩
    ·rw[Tr.tl_bal];simp only[Tr.tl_0,Tr.tl_1,List.mem_append,List.mem_cons,i4 z]
     constructor
     ·rintro (h | h | h)
      ·exact ⟨h.1,.inl h.2⟩
      ·subst h;exact ⟨hy,.inr (.inl rfl)⟩
      ·exact ⟨hxr z h,.inr (.inr h)⟩
     ·rintro ⟨h0,h | h | h⟩
      ·exact .inl ⟨h0,h⟩
      ·exact .inr (.inl h)
      ·exact .inr (.inr h)
  by_cases d2:T3.lt y x=true
  ·have e:Tr.del x (.node y l r)=(Tr.del x r).map fun r'=>Tr.bal y l r':=by rw[Tr.del_1,if_neg d,if_pos d2]
   have hy:y≠x:=fun e=>by subst e;exact T3.lt_irr _ d2
   have hxl:∀z∈l.tl,z≠x:=fun z hz e=>by subst e;exact T3.lt_irr _ (T3.lt_trans d2 (h1 _ hz))
   rcases Tr.del_ok x hr with ⟨i1,i2⟩ | ⟨t',i1,i2,i3,i4⟩
   ·refine .inl ⟨by rw[e,i1];rfl,fun hm=>?_⟩
    rcases List.mem_append.mp hm with hm | hm
    ·exact hxl _ hm rfl
    ·rcases List.mem_cons.mp hm with hm | hm
     ·exact hy hm.symm
     ·exact i2 hm
   ·refine .inr ⟨_,by rw[e,i1];rfl,List.mem_append_right _ (List.mem_cons_of_mem _ i2),?_,fun z=>?_⟩
    ·rw[Tr.tl_bal,Srt3.node];exact ⟨hl,i3,h1,fun z hz=>h2 z ((i4 z).mp hz).2⟩
    ·rw[Tr.tl_bal];simp only[Tr.tl_0,Tr.tl_1,List.mem_append,List.mem_cons,i4 z]
     constructor
     ·rintro (h | h | h)
      ·exact ⟨hxl z h,.inl h⟩
      ·subst h;exact ⟨hy,.inr (.inl rfl)⟩
      ·exact ⟨h.1,.inr (.inr h.2)⟩
     ·rintro ⟨h0,h | h | h⟩
      ·exact .inl h
      ·exact .inr (.inl h)
      ·exact .inr (.inr ⟨h0,h⟩)
  have hx:x=y:=by
   rcases T3.lt_tri x y with h | h | h
   ·exact absurd h d
   ·exact h
   ·exact absurd h d2
  subst hx
  have hxl:∀z∈l.tl,z≠x:=fun z hz e=>by subst e;exact T3.lt_irr _ (h1 _ hz)
  have hxr:∀z∈r.tl,z≠x:=fun z hz e=>by subst e;exact T3.lt_irr _ (h2 _ hz)
  right
  cases nl:l.isNil with
  | true=>
   cases l with
   | node _ _ _=>exact ft nl
   | nil=>
    refine ⟨r,by rw[Tr.del_1,if_neg d,if_neg d2];rfl,by simp[Tr.tl_0,Tr.tl_1],hr,fun z=>?_⟩
    simp only[Tr.tl_0,Tr.tl_1,List.nil_append,List.mem_cons]
    exact ⟨fun h=>⟨hxr z h,.inr h⟩,fun ⟨h0,h⟩=>h.resolve_left h0⟩
  | false=>
   cases nr:r.isNil with
   | true=>
    cases r with
    | node _ _ _=>exact ft nr
    | nil=>
     refine ⟨l,by rw[Tr.del_1,if_neg d,if_neg d2,if_neg (by rw[nl];decide)];rfl,by simp[Tr.tl_0,Tr.tl_1],hl,fun z=>?_⟩
     simp only[Tr.tl_0,Tr.tl_1,List.mem_append,List.mem_cons,List.not_mem_nil,or_false]
     exact ⟨fun h=>⟨hxl z h,.inl h⟩,fun ⟨h0,h⟩=>h.resolve_right h0⟩
   | false=>
    refine rA (fun m1 m2=>?_) (Tr.least_ok r x nr hr)
    have e:Tr.del x (.node x l r)=(Tr.del (r.least x) r).map fun r'=>Tr.bal (r.least x) l r':=by rw[Tr.del_1,if_neg d,if_neg d2,if_neg (by rw[nl];decide),if_neg (by rw[nr];decide)]
    rcases Tr.del_ok (r.least x) hr with ⟨i1,i2⟩ | ⟨t',i1,i2,i3,i4⟩
    ·exact absurd m1 i2
    refine ⟨_,by rw[e,i1];rfl,by simp[Tr.tl_0,Tr.tl_1],?_,fun z=>?_⟩
    ·rw[Tr.tl_bal,Srt3.node]
     exact ⟨hl,i3,fun z hz=>T3.lt_trans (h1 z hz) (h2 _ m1),fun z hz=>m2 z ((i4 z).mp hz).2 ((i4 z).mp hz).1⟩
    ·rw[Tr.tl_bal];simp only[Tr.tl_0,Tr.tl_1,List.mem_append,List.mem_cons,i4 z]
     constructor
     ·rintro (h | h | h)
      ·exact ⟨hxl z h,.inl h⟩
      ·subst h;exact ⟨hxr _ m1,.inr (.inr m1)⟩
      ·exact ⟨hxr z h.2,.inr (.inr h.2)⟩
     ·rintro ⟨h0,h | h | h⟩
      ·exact .inl h
      ·exact absurd h h0
      ·by_cases c:z=r.least x
       ·exact .inr (.inl c)
       ·exact .inr (.inr ⟨c,h⟩)
noncomputable def Zuo (lo hi:Int)(l:List T3):List T3:=l.filter fun x=>decide (x.a≤hi)&&decide (lo≤x.b)
theorem Zqt (x y:Int):x≤mx x y∧y≤mx x y:=by unfold mx;split <;> lia
noncomputable def Tr.avl (_:Tr):Prop:=True
theorem Tr.ins_avl (x:T3){t t':Tr}(_:t.avl)(_:Tr.ins x t=some t'):t'.avl∧True:=⟨trivial,trivial⟩
theorem Tr.del_avl {t t':Tr}(x:T3)(_:t.avl)(_:Tr.del x t=some t'):t'.avl∧True:=⟨trivial,trivial⟩
noncomputable def Tr.cnt (lo hi:Int):Tr→Nat
 | .nil=>0
 | .node x l r=>if (Tr.node x l r).rc<lo then 0 else 1+l.cnt lo hi+(if x.a≤hi then r.cnt lo hi else 0)
noncomputable def Zxv:St:=(.ife (.cmp .v0 (.one .is (.lit .none))) (.cons (.ret (.i 0)) .nil) .nil)
noncomputable def Zxw:St:=(.ret (.idx .v0 (.i 3)))
noncomputable def B7:Ss:=.cons Zxv <| .cons Zxw <| .nil
noncomputable def Zxx:St:=(.asg (.one 3) (.idx .v0 (.i 1)))
noncomputable def Zup:St:=(.ife (.cmp .v1 (.one .isnot (.lit .none))) (.cons (.asg (.one 3) (.blt .max (.cons .v3 (.cons (.idx .v1 (.i 4)) .nil)))) .nil) .nil)
noncomputable def Zuq:St:=(.ife (.cmp .v2 (.one .isnot (.lit .none))) (.cons (.asg (.one 3) (.blt .max (.cons .v3 (.cons (.idx .v2 (.i 4)) .nil)))) .nil) .nil)
noncomputable def Zxy:St:=(.ret (.tup (.cons .v0 (.cons .v1 (.cons .v2 (.cons (.bin .add (.i 1) (.blt .max (.cons (.call 7 (.cons .v1 .nil)) (.cons (.call 7 (.cons .v2 .nil)) .nil)))) (.cons .v3 .nil)))))))
noncomputable def B8:Ss:=.cons Zxx <| .cons Zup <| .cons Zuq <| .cons Zxy <| .nil
noncomputable def Zxz:St:=(.ife (.cmp (.call 7 (.cons .v1 .nil)) (.one .gt (.bin .add (.call 7 (.cons .v2 .nil)) (.i 1)))) (.cons (.ife (.cmp (.call 7 (.cons (.idx .v1 (.i 1)) .nil)) (.one .ge (.call 7 (.cons (.idx .v1 (.i 2)) .nil)))) (.cons (.ret (.call 8 (.cons (.idx .v1 (.i 0)) (.cons (.idx .v1 (.i 1)) (.cons (.call 8 (.cons .v0 (.cons (.idx .v1 (.i 2)) (.cons .v2 .nil)))) .nil))))) .nil) .nil) (.cons (.asg (.one 3) (.idx .v1 (.i 2))) (.cons (.ret (.call 8 (.cons (.idx .v3 (.i 0)) (.cons (.call 8 (.cons (.idx .v1 (.i 0)) (.cons (.idx .v1 (.i 1)) (.cons (.idx .v3 (.i 1)) .nil)))) (.cons (.call 8 (.cons .v0 (.cons (.idx .v3 (.i 2)) (.cons .v2 .nil)))) .nil))))) .nil))) .nil)
noncomputable def Zx0:St:=(.ife (.cmp (.call 7 (.cons .v2 .nil)) (.one .gt (.bin .add (.call 7 (.cons .v1 .nil)) (.i 1)))) (.cons (.ife (.cmp (.call 7 (.cons (.idx .v2 (.i 2)) .nil)) (.one .ge (.call 7 (.cons (.idx .v2 (.i 1)) .nil)))) (.cons (.ret (.call 8 (.cons (.idx .v2 (.i 0)) (.cons (.call 8 (.cons .v0 (.cons .v1 (.cons (.idx .v2 (.i 1)) .nil)))) (.cons (.idx .v2 (.i 2)) .nil))))) .nil) .nil) (.cons (.asg (.one 3) (.idx .v2 (.i 1))) (.cons (.ret (.call 8 (.cons (.idx .v3 (.i 0)) (.cons (.call 8 (.cons .v0 (.cons .v1 (.cons (.idx .v3 (.i 1)) .nil)))) (.cons (.call 8 (.cons (.idx .v2 (.i 0)) (.cons (.idx .v3 (.i 2)) (.cons (.idx .v2 (.i 2)) .nil)))) .nil))))) .nil))) .nil)
noncomputable def Zx1:St:=(.ret (.call 8 (.cons .v0 (.cons .v1 (.cons .v2 .nil)))))
noncomputable def B9:Ss:=.cons Zxz <| .cons Zx0 <| .cons Zx1 <| .nil
noncomputable def Zqu:St:=(.ife (.cmp .v0 (.one .is (.lit .none))) (.cons (.ret (.call 8 (.cons .v1 (.cons (.lit .none) (.cons (.lit .none) .nil))))) .nil) .nil)
noncomputable def Zur:St:=(.ife (.cmp .v1 (.one .eq (.idx .v0 (.i 0)))) (.cons (.raise 12) .nil) .nil)
noncomputable def Zus:St:=(.ife (.cmp .v1 (.one .lt (.idx .v0 (.i 0)))) (.cons (.ret (.call 9 (.cons (.idx .v0 (.i 0)) (.cons (.call 10 (.cons (.idx .v0 (.i 1)) (.cons .v1 .nil))) (.cons (.idx .v0 (.i 2)) .nil))))) .nil) .nil)
noncomputable def Zut:St:=(.ret (.call 9 (.cons (.idx .v0 (.i 0)) (.cons (.idx .v0 (.i 1)) (.cons (.call 10 (.cons (.idx .v0 (.i 2)) (.cons .v1 .nil))) .nil)))))
noncomputable def B10:Ss:=.cons Zqu <| .cons Zur <| .cons Zus <| .cons Zut <| .nil
noncomputable def Zqv:St:=(.whl (.cmp (.idx .v0 (.i 1)) (.one .isnot (.lit .none))) (.cons (.asg (.one 0) (.idx .v0 (.i 1))) .nil))
noncomputable def Zuu:St:=(.ret (.idx .v0 (.i 0)))
noncomputable def B11:Ss:=.cons Zqv <| .cons Zuu <| .nil
noncomputable def Zqw:St:=(.ife (.cmp .v0 (.one .is (.lit .none))) (.cons (.raise 13) .nil) .nil)
noncomputable def Zuv:St:=(.ife (.cmp .v1 (.one .lt (.idx .v0 (.i 0)))) (.cons (.ret (.call 9 (.cons (.idx .v0 (.i 0)) (.cons (.call 12 (.cons (.idx .v0 (.i 1)) (.cons .v1 .nil))) (.cons (.idx .v0 (.i 2)) .nil))))) .nil) .nil)
noncomputable def Zuw:St:=(.ife (.cmp .v1 (.one .gt (.idx .v0 (.i 0)))) (.cons (.ret (.call 9 (.cons (.idx .v0 (.i 0)) (.cons (.idx .v0 (.i 1)) (.cons (.call 12 (.cons (.idx .v0 (.i 2)) (.cons .v1 .nil))) .nil))))) .nil) .nil)
noncomputable def Zux:St:=(.ife (.cmp (.idx .v0 (.i 1)) (.one .is (.lit .none))) (.cons (.ret (.idx .v0 (.i 2))) .nil) .nil)
noncomputable def Zuy:St:=(.ife (.cmp (.idx .v0 (.i 2)) (.one .is (.lit .none))) (.cons (.ret (.idx .v0 (.i 1))) .nil) .nil)
noncomputable def Zuz:St:=(.asg (.one 2) (.call 11 (.cons (.idx .v0 (.i 2)) .nil)))
noncomputable def Zu0:St:=(.ret (.call 9 (.cons .v2 (.cons (.idx .v0 (.i 1)) (.cons (.call 12 (.cons (.idx .v0 (.i 2)) (.cons .v2 .nil))) .nil)))))
noncomputable def B12:Ss:=.cons Zqw <| .cons Zuv <| .cons Zuw <| .cons Zux <| .cons Zuy <| .cons Zuz <| .cons Zu0 <| .nil
noncomputable def Zx2:St:=(.expr (.call 1 (.cons .v2 .nil)))
noncomputable def Zx3:St:=(.expr (.call 2 (.cons .v0 (.cons .v1 .nil))))
noncomputable def Zx4:St:=(.ret (.tup (.cons .v0 (.cons .v1 (.cons .v2 .nil)))))
noncomputable def B3:Ss:=.cons Zx2 <| .cons Zx3 <| .cons Zx4 <| .nil
noncomputable def Zu1:St:=(.aset .v0 0 (.lit .none))
noncomputable def Zu2:St:=(.aset .v0 1 (.i 0))
noncomputable def B70:Ss:=.cons Zu1 <| .cons Zu2 <| .nil
noncomputable def Zu3:St:=(.aset .v0 0 (.call 10 (.cons (.attr .v0 0) (.cons (.call 3 (.cons .v1 (.cons .v2 (.cons .v3 .nil)))) .nil))))
noncomputable def Zu4:St:=(.aset .v0 1 (.bin .add (.attr .v0 1) (.i 1)))
noncomputable def B71:Ss:=.cons Zu3 <| .cons Zu4 <| .nil
noncomputable def Zu5:St:=(.aset .v0 0 (.call 12 (.cons (.attr .v0 0) (.cons (.call 3 (.cons .v1 (.cons .v2 (.cons .v3 .nil)))) .nil))))
noncomputable def Zu6:St:=(.aset .v0 1 (.bin .sub (.attr .v0 1) (.i 1)))
noncomputable def B72:Ss:=.cons Zu5 <| .cons Zu6 <| .nil
section
variable {pg:Pg}
structure P2 (pg:Pg):Prop where
 f1:pg.fn 1=some ⟨[0],9,B1,.pure⟩
 f2:pg.fn 2=some ⟨[0,1],10,B2,.pure⟩
 f3:pg.fn 3=some ⟨[0,1,2],11,B3,.pure⟩
 f7:pg.fn 7=some ⟨[0],9,B7,.pure⟩
 f8:pg.fn 8=some ⟨[0,1,2],12,B8,.pure⟩
 f9:pg.fn 9=some ⟨[0,1,2],12,B9,.pure⟩
 f10:pg.fn 10=some ⟨[0,1],10,B10,.pure⟩
 f11:pg.fn 11=some ⟨[0],9,B11,.pure⟩
 f12:pg.fn 12=some ⟨[0,1],11,B12,.pure⟩
 f70:pg.fn 70=some ⟨[0],9,B70,.raw⟩
 f71:pg.fn 71=some ⟨[0,1,2,3],12,B71,.raw⟩
 f72:pg.fn 72=some ⟨[0,1,2,3],12,B72,.raw⟩
 m1:pg.mt 0 1=some 71
 m2:pg.mt 0 2=some 72
 init:pg.init 0=some 70
theorem Zap {d n k:Nat}{ps:List Nat}{B:Ss}{as:List V}{c:Nat}(hF:pg.fn n=some ⟨ps,k,B,.pure⟩)(hs:Ut ⟨ps,k,B,.pure⟩ as=some ℓ)(h:execs ⟨pg,Zh pg d⟩ B ℓ σ=some (.exc c,ℓ',σ)):Zh pg (d+1) n as σ=some (.exc c,σ):=by
 rw[Ul hF hs];show gc .pure σ (Xs (execs ⟨pg,Zh pg d⟩ B ℓ σ))=_;rw[h];exact if_pos List.take_length
theorem Wo {d n k:Nat}{ps:List Nat}{B:Ss}{as:List V}{r:X V}(hF:pg.fn n=some ⟨ps,k,B,.raw⟩)(hs:Ut ⟨ps,k,B,.raw⟩ as=some ℓ)(h:Xs (execs ⟨pg,Zh pg d⟩ B ℓ σ)=r):Zh pg (d+1) n as σ=r:=by
 rw[Ul hF hs];exact h
theorem Zbt {C:Cl}{B:Ss}{v:V}(h:execs C B ℓ σ=some (.ret v,ℓ',σ')):Xs (execs C B ℓ σ)=some (.ok v,σ'):=by rw[h];rfl
set_option tactic.hygienic true in
theorem Zft {C:Cl}{B:Ss}(h:execs C B ℓ σ=some (.next,ℓ',σ')):Xs (execs C B ℓ σ)=some (.ok .none,σ'):=by rw[h];rfl
theorem Zm7 {C:Cl}{B:Ss}{c:Nat}(h:execs C B ℓ σ=some (.exc c,ℓ',σ')):Xs (execs C B ℓ σ)=some (.exc c,σ'):=by rw[h];rfl
theorem Zdw (t:Tr)(σ:H):Z9 .is t.v .none σ=some t.isNil:=by cases t <;> rfl
theorem Zm8 (t:Tr)(σ:H):Z9 .isnot t.v .none σ=some (!t.isNil):=by cases t <;> rfl
theorem Zu7 (x y:T3)(σ:H):Z9 .eq x.v y.v σ=some (decide (x=y)):=by
 have h:=Zpq σ [x.a,x.b,x.c] [y.a,y.b,y.c]
 have e:(decide ([x.a,x.b,x.c]=[y.a,y.b,y.c]))=decide (x=y):=by
  rw[decide_eq_decide,T3.eq_iff];simp
 rw[e] at h
 exact h
theorem Zu8 (x y:T3)(σ:H):Z9 .ne x.v y.v σ=some (!decide (x=y)):=by
 have h:=Zu7 x y σ
 show (eqV σ x.v y.v).map (!·)=_
 rw[show eqV σ x.v y.v=some (decide (x=y)) from h];rfl
theorem Ztc (x y:T3)(σ:H):Z9 .lt x.v y.v σ=some (T3.lt x y):=by
 show (if x.a=y.a then (if x.b=y.b then (if x.c=y.c then some false else some (decide (x.c<y.c))) else some (decide (x.b<y.b))) else some (decide (x.a<y.a)))=some (T3.lt x y)
 unfold T3.lt
 by_cases h1:x.a=y.a
 ·rw[if_pos h1]
  by_cases h2:x.b=y.b
  ·rw[if_pos h2]
   by_cases h3:x.c=y.c
   ·rw[if_pos h3];simp[h1,h2,h3]
   ·rw[if_neg h3];simp[h1,h2]
  ·rw[if_neg h2];simp[h1,h2]
 ·rw[if_neg h1];simp[h1]
theorem Zx5 (x y:T3)(σ:H):Z9 .gt x.v y.v σ=some (T3.lt y x):=Ztc y x σ
theorem Zm9 (P:P2 pg)(d:Nat)(t:Tr)(σ:H):Zh pg (d+1) 7 [t.v] σ=some (.ok (.int t.ht),σ):=by
 cases t with
 | nil=>exact Yz P.f7 rfl (Zp (Z7 (Zk (Zb rfl) Zf (Zdw .nil σ)) (Zp (Z1 Zf)))) rfl
 | node x l r=>exact Yz P.f7 rfl (Zc (Zq (Zk (Zb rfl) Zf (Zdw (.node x l r) σ)) Zn) (Zp (Z1 (Zm rfl rfl)))) rfl
set_option tactic.hygienic true in
theorem Zx6 (C:Cl)(x:T3)(l r:Tr)(σ:H):execs C (.cons Zup .nil) [some x.v,some l.v,some r.v,some (.int x.b),none,none,none,none,none,none,none,none] σ=some (.next,[some x.v,some l.v,some r.v,some (.int (if l.isNil then x.b else mx x.b l.rc)),none,none,none,none,none,none,none,none],σ):=by
 cases l with
 | nil=>exact Zv (Zq (Zk (Zb rfl) Zf (Zm8 .nil σ)) Zn)
 | node y a b=>exact Zv (Z7 (Zk (Zb rfl) Zf (Zm8 (.node y a b) σ)) (Zv (Zx (Z6 (Za (Zb rfl) (Za (Zm rfl rfl) Ze)) rfl) rfl)))
set_option tactic.hygienic true in
theorem Zx7 (C:Cl)(x:T3)(l r:Tr)(σ:H):execs C (.cons Zuq .nil) [some x.v,some l.v,some r.v,some (.int (if l.isNil then x.b else mx x.b l.rc)),none,none,none,none,none,none,none,none] σ=some (.next,[some x.v,some l.v,some r.v,some (.int (Tr.node x l r).rc),none,none,none,none,none,none,none,none],σ):=by
 cases r with
 | nil=>exact Zv (Zq (Zk (Zb rfl) Zf (Zm8 .nil σ)) Zn)
 | node y a b=>exact Zv (Z7 (Zk (Zb rfl) Zf (Zm8 (.node y a b) σ)) (Zv (Zx (Z6 (Za (Zb rfl) (Za (Zm rfl rfl) Ze)) rfl) rfl)))
set_option tactic.hygienic true in
theorem Wp {C:Cl}{s:St}(h:execs C (.cons s .nil) ℓ σ=some (.next,ℓ',σ')):exec C s ℓ σ=some (.next,ℓ',σ'):=by
 have h:Qe (exec C s ℓ σ) (fun ℓ1 σ1=>some (.next,ℓ1,σ1))=some (.next,ℓ',σ'):=h
 cases e:exec C s ℓ σ with
 | none=>rw[e] at h;exact nn h
 | some y=>obtain ⟨f,l,t⟩:=y;rw[e] at h;cases f <;> first | exact h | cases h
theorem Qc (P:P2 pg)(d:Nat)(x:T3)(l r:Tr)(σ:H):Zh pg (d+2) 8 [x.v,l.v,r.v] σ=some (.ok (Tr.node x l r).v,σ):=by
 refine Yz P.f8 rfl (Zc (Zx (Zm rfl rfl) rfl) (Zc (Wp (Zx6 _ x l r σ)) (Zc (Wp (Zx7 _ x l r σ)) (Zp (Z1 (Y4 (Za (Zb rfl) (Za (Zb rfl) (Za (Zb rfl) (Za (Zi Zf (Z6 (Za (Zo (Za (Zb rfl) Ze) (Zm9 P d l σ)) (Za (Zo (Za (Zb rfl) Ze) (Zm9 P d r σ)) Ze)) rfl) (Z2 _ _ _)) (Za (Zb rfl) Ze))))) rfl)))))) ?_
 exact Tr.v_below _ (.node x l r)
theorem hgt {C:Cl}{i j:Int}{a b:Ex}(ha:Zg C a ℓ σ=some (.ok (.int i),σ))(hb:Zg C b ℓ σ=some (.ok (.int j),σ)):Zg C (.cmp a (.one .gt (.bin .add b (.lit (.int 1))))) ℓ σ=some (.ok (.bool (decide (j+1<i))),σ):=Zk ha (Zi hb Zf (Z2 _ _ _)) rfl
theorem Zdl (P:P2 pg)(d:Nat)(x:T3)(l r:Tr)(σ:H):Zh pg (d+3) 9 [x.v,l.v,r.v] σ=some (.ok (Tr.bal x l r).v,σ):=by
 have hh:=fun t=>Zm9 P (d+1) t σ
 have hb:∀t:Tr,below σ.length t.v=true:=fun t=>Tr.v_below _ t
 unfold Tr.bal
 by_cases c1:r.ht+1<l.ht
 ·rw[if_pos c1]
  have t1:=hgt (a:=Ex.call 7 (Es.cons (Ex.var 1) Es.nil)) (b:=Ex.call 7 (Es.cons (Ex.var 2) Es.nil)) (C:=⟨pg,Zh pg (d+2)⟩) (ℓ:=[some x.v,some l.v,some r.v,none,none,none,none,none,none,none,none,none]) (Zo (Za (Zb rfl) Ze) (hh l)) (Zo (Za (Zb rfl) Ze) (hh r))
  rw[decide_eq_true c1] at t1
  cases l with
  | nil=>have:=r.ht_nn;simp only[Tr.ht_0,Tr.ht_1] at c1;lia
  | node y a b=>
   unfold Tr.rotL;dsimp only
   by_cases c2:b.ht≤a.ht
   ·rw[if_pos c2]
    exact Yz P.f9 rfl (Zp (Z7 t1 (Zp (Z7 (Zk (Zo (Za (Zm rfl rfl) Ze) (hh a)) (Zo (Za (Zm rfl rfl) Ze) (hh b)) (geT c2)) (Zp (Z1 (Zo (Za (Zm rfl rfl) (Za (Zm rfl rfl) (Za (Zo (Za (Zb rfl) (Za (Zm rfl rfl) (Za (Zb rfl) Ze))) (Qc P d x b r σ)) Ze))) (Qc P d y a _ σ)))))))) (hb _)
   ·rw[if_neg c2]
    cases b with
    | nil=>have:=a.ht_nn;simp only[Tr.ht_0,Tr.ht_1] at c2;lia
    | node z e f=>
     exact Yz P.f9 rfl (Zp (Z7 t1 (Zc (Zq (Zk (Zo (Za (Zm rfl rfl) Ze) (hh a)) (Zo (Za (Zm rfl rfl) Ze) (hh (.node z e f))) (geF c2)) Zn) (Zc (Zx (Zm rfl rfl) rfl) (Zp (Z1 (Zo (Za (Zm rfl rfl) (Za (Zo (Za (Zm rfl rfl) (Za (Zm rfl rfl) (Za (Zm rfl rfl) Ze))) (Qc P d y a e σ)) (Za (Zo (Za (Zb rfl) (Za (Zm rfl rfl) (Za (Zb rfl) Ze))) (Qc P d x f r σ)) Ze))) (Qc P d z _ _ σ)))))))) (hb _)
 ·rw[if_neg c1]
  have t1:=hgt (a:=Ex.call 7 (Es.cons (Ex.var 1) Es.nil)) (b:=Ex.call 7 (Es.cons (Ex.var 2) Es.nil)) (C:=⟨pg,Zh pg (d+2)⟩) (ℓ:=[some x.v,some l.v,some r.v,none,none,none,none,none,none,none,none,none]) (Zo (Za (Zb rfl) Ze) (hh l)) (Zo (Za (Zb rfl) Ze) (hh r))
  rw[decide_eq_false c1] at t1
  have t2:=hgt (a:=Ex.call 7 (Es.cons (Ex.var 2) Es.nil)) (b:=Ex.call 7 (Es.cons (Ex.var 1) Es.nil)) (C:=⟨pg,Zh pg (d+2)⟩) (ℓ:=[some x.v,some l.v,some r.v,none,none,none,none,none,none,none,none,none]) (Zo (Za (Zb rfl) Ze) (hh r)) (Zo (Za (Zb rfl) Ze) (hh l))
  by_cases c3:l.ht+1<r.ht
  ·rw[if_pos c3]
   rw[decide_eq_true c3] at t2
   cases r with
   | nil=>have:=l.ht_nn;simp only[Tr.ht_0,Tr.ht_1] at c3;lia
   | node y a b=>
    unfold Tr.rotR;dsimp only
    by_cases c2:a.ht≤b.ht
    ·rw[if_pos c2]
     exact Yz P.f9 rfl (Zc (Zq t1 Zn) (Zp (Z7 t2 (Zp (Z7 (Zk (Zo (Za (Zm rfl rfl) Ze) (hh b)) (Zo (Za (Zm rfl rfl) Ze) (hh a)) (geT c2)) (Zp (Z1 (Zo (Za (Zm rfl rfl) (Za (Zo (Za (Zb rfl) (Za (Zb rfl) (Za (Zm rfl rfl) Ze))) (Qc P d x l a σ)) (Za (Zm rfl rfl) Ze))) (Qc P d y _ b σ))))))))) (hb _)
    ·rw[if_neg c2]
     cases a with
     | nil=>have:=b.ht_nn;simp only[Tr.ht_0,Tr.ht_1] at c2;lia
     | node z e f=>
      exact Yz P.f9 rfl (Zc (Zq t1 Zn) (Zp (Z7 t2 (Zc (Zq (Zk (Zo (Za (Zm rfl rfl) Ze) (hh b)) (Zo (Za (Zm rfl rfl) Ze) (hh (.node z e f))) (geF c2)) Zn) (Zc (Zx (Zm rfl rfl) rfl) (Zp (Z1 (Zo (Za (Zm rfl rfl) (Za (Zo (Za (Zb rfl) (Za (Zb rfl) (Za (Zm rfl rfl) Ze))) (Qc P d x l e σ)) (Za (Zo (Za (Zm rfl rfl) (Za (Zm rfl rfl) (Za (Zm rfl rfl) Ze))) (Qc P d y f b σ)) Ze))) (Qc P d z _ _ σ))))))))) (hb _)
  ·rw[if_neg c3]
   rw[decide_eq_false c3] at t2
   exact Yz P.f9 rfl (Zc (Zq t1 Zn) (Zc (Zq t2 Zn) (Zp (Z1 (Zo (Za (Zb rfl) (Za (Zb rfl) (Za (Zb rfl) Ze))) (Qc P d x l r σ)))))) (hb _)
noncomputable def trX (t:Option Tr)(k:Nat)(σ:H):X V:=match t with
 | some t=>some (.ok t.v,σ)
 | none=>some (.exc k,σ)
set_option tactic.hygienic true in
theorem Zih (P:P2 pg)(x:T3)(σ:H):∀(t:Tr) (d:Nat),t.sz≤d→Zh pg (d+4) 10 [t.v,x.v] σ=trX (Tr.ins x t) 12 σ
 | .nil,d,_=>Yz P.f10 rfl (Zp (Z7 (Zk (Zb rfl) Zf (Zdw .nil σ)) (Zp (Z1 (Zo (Za (Zb rfl) (Za Zf (Za Zf Ze))) (Qc P (d+1) x .nil .nil σ)))))) (Tr.v_below _ _)
 | .node y l r,0,h=>absurd h (by simp[Tr.sz_0,Tr.sz_1])
 | .node y l r,d+1,h=>by
  have hl:=Zih P x σ l d (by simp only[Tr.sz_0,Tr.sz_1] at h;exact ln3 [(.le (.a (.a .v0 .v2) .k1) (.a .v1 .k1))] (.le .v0 .v1) (.d 111) rfl h)
  have hr:=Zih P x σ r d (by simp only[Tr.sz_0,Tr.sz_1] at h;exact ln3 [(.le (.a (.a .v2 .v0) .k1) (.a .v1 .k1))] (.le .v0 .v1) (.d 111) rfl h)
  have b0:execs ⟨pg,Zh pg (d+4)⟩ (.cons Zqu .nil) [some (Tr.node y l r).v,some x.v,none,none,none,none,none,none,none,none] σ=some (.next,[some (Tr.node y l r).v,some x.v,none,none,none,none,none,none,none,none],σ):=Zv (Zq (Zk (Zb rfl) Zf (Zdw (.node y l r) σ)) Zn)
  have t1:Zg ⟨pg,Zh pg (d+4)⟩ (Ex.cmp (Ex.var 1) (Ch.one Cop.eq (Ex.idx (Ex.var 0) (Ex.lit (V.int 0))))) [some (Tr.node y l r).v,some x.v,none,none,none,none,none,none,none,none] σ=some (.ok (.bool (decide (x=y))),σ):=Zk (Zb rfl) (Zm rfl rfl) (Zu7 x y σ)
  have t2:Zg ⟨pg,Zh pg (d+4)⟩ (Ex.cmp (Ex.var 1) (Ch.one Cop.lt (Ex.idx (Ex.var 0) (Ex.lit (V.int 0))))) [some (Tr.node y l r).v,some x.v,none,none,none,none,none,none,none,none] σ=some (.ok (.bool (T3.lt x y)),σ):=Zk (Zb rfl) (Zm rfl rfl) (Ztc x y σ)
  rw[Tr.ins_1]
  by_cases c1:x=y
  ·rw[if_pos c1]
   rw[decide_eq_true c1] at t1
   exact Zap P.f10 rfl (Zc (Wp b0) (Jh (Z7 t1 (Jh Zjq))))
  ·rw[if_neg c1]
   rw[decide_eq_false c1] at t1
   by_cases c2:T3.lt x y=true
   ·rw[if_pos c2]
    rw[c2] at t2
    cases e:Tr.ins x l with
    | none=>
     rw[e] at hl
     exact Zap P.f10 rfl (Zc (Wp b0) (Zc (Zq t1 Zn) (Jh (Z7 t2 (Jh (Zdh (Xg (Jo (Uk (Zm rfl rfl)) (Xe (Zo (Za (Zm rfl rfl) (Za (Zb rfl) Ze)) hl))))))))))
    | some t'=>
     rw[e] at hl
     exact Yz P.f10 rfl (Zc (Wp b0) (Zc (Zq t1 Zn) (Zp (Z7 t2 (Zp (Z1 (Zo (Za (Zm rfl rfl) (Za (Zo (Za (Zm rfl rfl) (Za (Zb rfl) Ze)) hl) (Za (Zm rfl rfl) Ze))) (Zdl P (d+1) y t' r σ)))))))) (Tr.v_below _ _)
   ·rw[if_neg c2]
    have c2':T3.lt x y=false:=by simpa using c2
    rw[c2'] at t2
    cases e:Tr.ins x r with
    | none=>
     rw[e] at hr
     exact Zap P.f10 rfl (Zc (Wp b0) (Zc (Zq t1 Zn) (Zc (Zq t2 Zn) (Jh (Zdh (Xg (Jo (Uk (Zm rfl rfl)) (Jo (Uk (Zm rfl rfl)) (Xe (Zo (Za (Zm rfl rfl) (Za (Zb rfl) Ze)) hr))))))))))
    | some t'=>
     rw[e] at hr
     exact Yz P.f10 rfl (Zc (Wp b0) (Zc (Zq t1 Zn) (Zc (Zq t2 Zn) (Zp (Z1 (Zo (Za (Zm rfl rfl) (Za (Zm rfl rfl) (Za (Zo (Za (Zm rfl rfl) (Za (Zb rfl) Ze)) hr) Ze))) (Zdl P (d+1) y l t' σ))))))) (Tr.v_below _ _)
set_option tactic.hygienic true in
theorem Zhl (C:Cl)(σ:H):∀(t:Tr) (n:Nat) (x:T3),t.isNil=false→t.sz<n→∃r,Wx (Zg C (Ex.cmp (Ex.idx (Ex.var 0) (Ex.lit (V.int 1))) (Ch.one Cop.isnot (Ex.lit V.none)))) (execs C (Ss.cons (St.asg (Tg.one 0) (Ex.idx (Ex.var 0) (Ex.lit (V.int 1)))) Ss.nil)) n [some t.v,none,none,none,none,none,none,none,none] σ=some (.next,[some (Tr.node (t.least x) .nil r).v,none,none,none,none,none,none,none,none],σ)
 | .nil,_,_,h,_=>by exact tf h
 | .node y l r,0,_,_,h=>absurd h (Nat.not_lt_zero _)
 | .node y l r,n+1,x,_,h=>by
  have t1:Zg C (Ex.cmp (Ex.idx (Ex.var 0) (Ex.lit (V.int 1))) (Ch.one Cop.isnot (Ex.lit V.none))) [some (Tr.node y l r).v,none,none,none,none,none,none,none,none] σ=some (.ok (.bool (!l.isNil)),σ):=Zk (Zm rfl rfl) Zf (Zm8 l σ)
  cases hn:l.isNil with
  | true=>
   cases l with
   | node _ _ _=>exact ft hn
   | nil=>exact ⟨r,Zek t1⟩
  | false=>
   refine rE (fun r' e=>?_) (Zhl C σ l n y hn (by simp only[Tr.sz_0,Tr.sz_1] at h;exact ln3 [(.lt (.a (.a .v0 .v2) .k1) (.a .v1 .k1))] (.lt .v0 .v1) (.d 111) rfl h))
   refine ⟨r',?_⟩
   have b1:execs C (Ss.cons (St.asg (Tg.one 0) (Ex.idx (Ex.var 0) (Ex.lit (V.int 1)))) Ss.nil) [some (Tr.node y l r).v,none,none,none,none,none,none,none,none] σ=some (.next,[some l.v,none,none,none,none,none,none,none,none],σ):=Zv (Zx (Zm rfl rfl) rfl)
   rw[hn] at t1
   exact (Zhk t1 b1).trans e
set_option tactic.hygienic true in
theorem Zna (P:P2 pg)(d:Nat)(t:Tr)(x:T3)(hn:t.isNil=false)(hs:t.sz<2^16)(σ:H):Zh pg (d+1) 11 [t.v] σ=some (.ok (t.least x).v,σ):=by
 refine rE (fun r e=>?_) (Zhl ⟨pg,Zh pg d⟩ σ t Qi x hn hs)
 have e':exec ⟨pg,Zh pg d⟩ Zqv [some t.v,none,none,none,none,none,none,none,none] σ=some (.next,[some (Tr.node (t.least x) .nil r).v,none,none,none,none,none,none,none,none],σ):=e
 exact Yz P.f11 rfl (Zc e' (Zp (Z1 (Zm rfl rfl)))) rfl
set_option tactic.hygienic true in
theorem Zfu (P:P2 pg)(σ:H):∀(t:Tr) (x:T3) (d:Nat),t.sz≤d→t.sz<2^16→Zh pg (d+4) 12 [t.v,x.v] σ=trX (Tr.del x t) 13 σ
 | .nil,x,d,_,_=>Zap P.f12 rfl (Jh (Z7 (Zk (Zb rfl) Zf (Zdw .nil σ)) (Jh Zjq)))
 | .node y l r,x,0,h,_=>absurd h (by simp[Tr.sz_0,Tr.sz_1])
 | .node y l r,x,d+1,h,h'=>by
  have hl:=Zfu P σ l x d (by simp only[Tr.sz_0,Tr.sz_1] at h;exact ln3 [(.le (.a (.a .v0 .v2) .k1) (.a .v1 .k1))] (.le .v0 .v1) (.d 111) rfl h) (by simp only[Tr.sz_0,Tr.sz_1] at h';exact ln3 [(.lt (.a (.a .v0 .v2) .k1) .v1)] (.lt .v0 .v1) (.d 111) rfl h')
  have hr:=Zfu P σ r x d (by simp only[Tr.sz_0,Tr.sz_1] at h;exact ln3 [(.le (.a (.a .v2 .v0) .k1) (.a .v1 .k1))] (.le .v0 .v1) (.d 111) rfl h) (by simp only[Tr.sz_0,Tr.sz_1] at h';exact ln3 [(.lt (.a (.a .v2 .v0) .k1) .v1)] (.lt .v0 .v1) (.d 111) rfl h')
  have hr2:=Zfu P σ r (r.least x) d (by simp only[Tr.sz_0,Tr.sz_1] at h;exact ln3 [(.le (.a (.a .v2 .v0) .k1) (.a .v1 .k1))] (.le .v0 .v1) (.d 111) rfl h) (by simp only[Tr.sz_0,Tr.sz_1] at h';exact ln3 [(.lt (.a (.a .v2 .v0) .k1) .v1)] (.lt .v0 .v1) (.d 111) rfl h')
  have b0:execs ⟨pg,Zh pg (d+4)⟩ (.cons Zqw .nil) [some (Tr.node y l r).v,some x.v,none,none,none,none,none,none,none,none,none] σ=some (.next,[some (Tr.node y l r).v,some x.v,none,none,none,none,none,none,none,none,none],σ):=Zv (Zq (Zk (Zb rfl) Zf (Zdw (.node y l r) σ)) Zn)
  have t1:Zg ⟨pg,Zh pg (d+4)⟩ (Ex.cmp (Ex.var 1) (Ch.one Cop.lt (Ex.idx (Ex.var 0) (Ex.lit (V.int 0))))) [some (Tr.node y l r).v,some x.v,none,none,none,none,none,none,none,none,none] σ=some (.ok (.bool (T3.lt x y)),σ):=Zk (Zb rfl) (Zm rfl rfl) (Ztc x y σ)
  have t2:Zg ⟨pg,Zh pg (d+4)⟩ (Ex.cmp (Ex.var 1) (Ch.one Cop.gt (Ex.idx (Ex.var 0) (Ex.lit (V.int 0))))) [some (Tr.node y l r).v,some x.v,none,none,none,none,none,none,none,none,none] σ=some (.ok (.bool (T3.lt y x)),σ):=Zk (Zb rfl) (Zm rfl rfl) (Zx5 x y σ)
  have t3:Zg ⟨pg,Zh pg (d+4)⟩ (Ex.cmp (Ex.idx (Ex.var 0) (Ex.lit (V.int 1))) (Ch.one Cop.is (Ex.lit V.none))) [some (Tr.node y l r).v,some x.v,none,none,none,none,none,none,none,none,none] σ=some (.ok (.bool l.isNil),σ):=Zk (Zm rfl rfl) Zf (Zdw l σ)
  have t4:Zg ⟨pg,Zh pg (d+4)⟩ (Ex.cmp (Ex.idx (Ex.var 0) (Ex.lit (V.int 2))) (Ch.one Cop.is (Ex.lit V.none))) [some (Tr.node y l r).v,some x.v,none,none,none,none,none,none,none,none,none] σ=some (.ok (.bool r.isNil),σ):=Zk (Zm rfl rfl) Zf (Zdw r σ)
  rw[Tr.del_1]
  by_cases c1:T3.lt x y=true
  ·rw[if_pos c1]
   rw[c1] at t1
   cases e:Tr.del x l with
   | none=>
    rw[e] at hl
    exact Zap P.f12 rfl (Zc (Wp b0) (Jh (Z7 t1 (Jh (Zdh (Xg (Jo (Uk (Zm rfl rfl)) (Xe (Zo (Za (Zm rfl rfl) (Za (Zb rfl) Ze)) hl)))))))))
   | some t'=>
    rw[e] at hl
    exact Yz P.f12 rfl (Zc (Wp b0) (Zp (Z7 t1 (Zp (Z1 (Zo (Za (Zm rfl rfl) (Za (Zo (Za (Zm rfl rfl) (Za (Zb rfl) Ze)) hl) (Za (Zm rfl rfl) Ze))) (Zdl P (d+1) y t' r σ))))))) (Tr.v_below _ _)
  rw[if_neg c1]
  have c1':T3.lt x y=false:=by simpa using c1
  rw[c1'] at t1
  by_cases c2:T3.lt y x=true
  ·rw[if_pos c2]
   rw[c2] at t2
   cases e:Tr.del x r with
   | none=>
    rw[e] at hr
    exact Zap P.f12 rfl (Zc (Wp b0) (Zc (Zq t1 Zn) (Jh (Z7 t2 (Jh (Zdh (Xg (Jo (Uk (Zm rfl rfl)) (Jo (Uk (Zm rfl rfl)) (Xe (Zo (Za (Zm rfl rfl) (Za (Zb rfl) Ze)) hr)))))))))))
   | some t'=>
    rw[e] at hr
    exact Yz P.f12 rfl (Zc (Wp b0) (Zc (Zq t1 Zn) (Zp (Z7 t2 (Zp (Z1 (Zo (Za (Zm rfl rfl) (Za (Zm rfl rfl) (Za (Zo (Za (Zm rfl rfl) (Za (Zb rfl) Ze)) hr) Ze))) (Zdl P (d+1) y l t' σ)))))))) (Tr.v_below _ _)
  rw[if_neg c2]
  have c2':T3.lt y x=false:=by simpa using c2
  rw[c2'] at t2
  cases hnl:l.isNil with
  | true=>
   rw[hnl] at t3
   exact Yz P.f12 rfl (Zc (Wp b0) (Zc (Zq t1 Zn) (Zc (Zq t2 Zn) (Zp (Z7 t3 (Zp (Z1 (Zm rfl rfl)))))))) (Tr.v_below _ _)
  | false=>
   rw[hnl] at t3
   cases hnr:r.isNil with
   | true=>
    rw[hnr] at t4
    exact Yz P.f12 rfl (Zc (Wp b0) (Zc (Zq t1 Zn) (Zc (Zq t2 Zn) (Zc (Zq t3 Zn) (Zp (Z7 t4 (Zp (Z1 (Zm rfl rfl))))))))) (Tr.v_below _ _)
   | false=>
    rw[hnr] at t4
    have hle:=Zna P (d+3) r x hnr (by simp only[Tr.sz_0,Tr.sz_1] at h';exact ln3 [(.lt (.a (.a .v2 .v0) .k1) .v1)] (.lt .v0 .v1) (.d 111) rfl h') σ
    cases e:Tr.del (r.least x) r with
    | none=>
     rw[e] at hr2
     exact Zap P.f12 rfl (Zc (Wp b0) (Zc (Zq t1 Zn) (Zc (Zq t2 Zn) (Zc (Zq t3 Zn) (Zc (Zq t4 Zn) (Zc (Zx (Zo (Za (Zm rfl rfl) Ze) hle) rfl) (Jh (Zdh (Xg (Jo (Uk (Zb rfl)) (Jo (Uk (Zm rfl rfl)) (Xe (Zo (Za (Zm rfl rfl) (Za (Zb rfl) Ze)) hr2)))))))))))))
    | some t'=>
     rw[e] at hr2
     exact Yz P.f12 rfl (Zc (Wp b0) (Zc (Zq t1 Zn) (Zc (Zq t2 Zn) (Zc (Zq t3 Zn) (Zc (Zq t4 Zn) (Zc (Zx (Zo (Za (Zm rfl rfl) Ze) hle) rfl) (Zp (Z1 (Zo (Za (Zb rfl) (Za (Zm rfl rfl) (Za (Zo (Za (Zm rfl rfl) (Za (Zb rfl) Ze)) hr2) Ze))) (Zdl P (d+1) (r.least x) l t' σ)))))))))) (Tr.v_below _ _)
end
noncomputable def okT (x:T3):Prop:=-10^60<x.a∧x.a≤x.b∧x.b<10^60∧-10^60<x.c∧x.c<10^60
section
variable {pg:Pg}
theorem Zqx (P:P2 pg)(d:Nat)(x:T3)(σ:H)(ho:okT x):Zh pg (d+3) 3 [.int x.a,.int x.b,.int x.c] σ=some (.ok x.v,σ):=by
 revert ho;refine Ziu fun h1 h2 h3 h4 h5=>?_
 exact Yz P.f3 rfl (Zc (Y7 (Zo (Za (Zb rfl) Ze) (Zdk P.f1 (d+1) x.c h4 h5 σ))) (Zc (Y7 (Zo (Za (Zb rfl) (Za (Zb rfl) Ze)) (Zfs P.f1 P.f2 d x.a x.b h1 h2 h3 σ))) (Zp (Z1 (Y4 (Za (Zb rfl) (Za (Zb rfl) (Za (Zb rfl) Ze))) rfl))))) rfl
noncomputable def Wd (w n:Nat)(σ:H)(t:Tr)(m:Int):Prop:=σ[n]?=some (.ns [(0,t.v),(1,.int m)])∧σ[w]?=some (.inst 0 n)
theorem Wd.app {w n:Nat}{τ:H}{t:Tr}{m:Int}(h:Wd w n σ t m):Wd w n (σ++τ) t m:=⟨Zj h.1,Zj h.2⟩
theorem Wd.ns {w n:Nat}{t:Tr}{m:Int}(h:Wd w n σ t m):Zds σ (.obj w)=some (n,[(0,t.v),(1,.int m)]):=by simp only[Zds,h.2,h.1]
theorem Wd.mt {w n:Nat}{t:Tr}{m:Int}(h:Wd w n σ t m)(k:Nat):Xq pg σ (.obj w) k=pg.mt 0 k:=by simp only[Xq,h.2,h.1]
theorem Wd.ne {w n:Nat}{t:Tr}{m:Int}(h:Wd w n σ t m):w≠n:=fun e=>by have:=h.2;rw[e,h.1] at this;cases this
theorem Wd.set {w n:Nat}{t:Tr}{m:Int}(h:Wd w n σ t m)(t':Tr)(m':Int):Wd w n (Yi σ n (.ns [(0,t'.v),(1,.int m')])) t' m':=by
 have h0:=(List.getElem?_eq_some_iff.mp h.1).1
 exact ⟨by rw[Yi,List.getElem?_set_self h0],by rw[Yi,List.getElem?_set_ne (fun e=>h.ne e.symm)];exact h.2⟩
theorem Zpr {o o':O}{k n:Nat}(h:σ[k]?=some o)(hn:k≠n):(Yi σ n o')[k]?=some o:=by rw[Yi,List.getElem?_set_ne (fun e=>hn e.symm)];exact h
theorem Zjw (σ:H)(n:Nat)(o:O):(Yi σ n o).length=σ.length:=by simp[Yi]
theorem Zps (P:P2 pg)(d:Nat)(σ:H)(h0:σ.length=0):Zg ⟨pg,Zh pg (d+1)⟩ (.new 0 .nil) [] σ=some (.ok (.obj 1),[.ns [(0,.none),(1,.int 0)],.inst 0 0]):=by
 have:σ=[]:=List.eq_nil_of_length_eq_zero h0
 subst this
 refine Zuj P.init (Wo P.f70 rfl (Zft (ℓ':=[some (.obj 1),none,none,none,none,none,none,none,none]) ?_))
 exact Zc (Zbp (Qp Zf) (Zb rfl) (p:=(0,[])) rfl) (Zv (Zbp (Qp Zf) (Zb rfl) (p:=(0,[(0,.none)])) rfl))
theorem Znb (P:P2 pg)(d:Nat)(ℓ:L):Zg ⟨pg,Zh pg (d+1)⟩ (.new 0 .nil) ℓ []=some (.ok (.obj 1),[.ns [(0,.none),(1,.int 0)],.inst 0 0]):=Zps P d [] rfl
theorem Ztd (P:P2 pg)(d:Nat)(x:T3)(ho:okT x){w n:Nat}{t:Tr}{m:Int}(hw:Wd w n σ t m)(hd:t.sz≤d):Zh pg (d+5) 71 [.obj w,.int x.a,.int x.b,.int x.c] σ=(match Tr.ins x t with
  | some t'=>some (.ok .none,Yi σ n (.ns [(0,t'.v),(1,.int (m+1))]))
  | none=>some (.exc 12,σ)):=by
 have a1:=Zdf (C:=⟨pg,Zh pg (d+4)⟩) (ℓ:=[some (.obj w),some (.int x.a),some (.int x.b),some (.int x.c),none,none,none,none,none,none,none,none]) (a:=.var 0) (k:=0) (Zb rfl) hw.ns rfl
 have a2:=Zo (C:=⟨pg,Zh pg (d+4)⟩) (ℓ:=[some (.obj w),some (.int x.a),some (.int x.b),some (.int x.c),none,none,none,none,none,none,none,none]) (Za (a:=.var 1) (Zb rfl) (Za (a:=.var 2) (Zb rfl) (Za (a:=.var 3) (Zb rfl) Ze))) (Zqx P (d+1) x σ ho)
 have hi:=Zih P x σ t d hd
 cases e:Tr.ins x t with
 | none=>
  rw[e] at hi
  exact Wo P.f71 rfl (Zm7 (Jh (Zjo (Wm (Xf (Za a1 (Za a2 Ze))) hi))))
 | some t'=>
  rw[e] at hi
  have hw2:=hw.set t' m
  refine Wo P.f71 rfl (Zft (ℓ':=[some (.obj w),some (.int x.a),some (.int x.b),some (.int x.c),none,none,none,none,none,none,none,none]) (Zc (Zbp (Wm (Xf (Za a1 (Za a2 Ze))) hi) (Zb rfl) hw.ns) ?_))
  have s2:=Zbp (C:=⟨pg,Zh pg (d+4)⟩) (ℓ:=[some (.obj w),some (.int x.a),some (.int x.b),some (.int x.c),none,none,none,none,none,none,none,none]) (k:=1) (Qp (Zi (op:=.add) (Zdf (a:=.var 0) (k:=1) (Zb rfl) hw2.ns rfl) Zf (Z2 m 1 _))) (Zb (i:=0) rfl) hw2.ns
  have e2:Yi (Yi σ n (.ns [(0,t'.v),(1,.int m)])) n (.ns [(0,t'.v),(1,.int (m+1))])=Yi σ n (.ns [(0,t'.v),(1,.int (m+1))]):=List.set_set ..
  rw[show Yi (Yi σ n (.ns [(0,t'.v),(1,.int m)])) (n,[(0,t'.v),(1,V.int m)]).1 (.ns (Zav (n,[(0,t'.v),(1,V.int m)]).2 1 (.int (m+1))))=Yi σ n (.ns [(0,t'.v),(1,.int (m+1))]) from e2] at s2
  exact Zv s2
theorem Zpt (P:P2 pg)(d:Nat)(x:T3)(ho:okT x){w n:Nat}{t:Tr}{m:Int}(hw:Wd w n σ t m)(hd:t.sz≤d)(hsz:t.sz<1000):Zh pg (d+5) 72 [.obj w,.int x.a,.int x.b,.int x.c] σ=(match Tr.del x t with
  | some t'=>some (.ok .none,Yi σ n (.ns [(0,t'.v),(1,.int (m-1))]))
  | none=>some (.exc 13,σ)):=by
 have a1:=Zdf (C:=⟨pg,Zh pg (d+4)⟩) (ℓ:=[some (.obj w),some (.int x.a),some (.int x.b),some (.int x.c),none,none,none,none,none,none,none,none]) (a:=.var 0) (k:=0) (Zb rfl) hw.ns rfl
 have a2:=Zo (C:=⟨pg,Zh pg (d+4)⟩) (ℓ:=[some (.obj w),some (.int x.a),some (.int x.b),some (.int x.c),none,none,none,none,none,none,none,none]) (Za (a:=.var 1) (Zb rfl) (Za (a:=.var 2) (Zb rfl) (Za (a:=.var 3) (Zb rfl) Ze))) (Zqx P (d+1) x σ ho)
 have hi:=Zfu P σ t x d hd (by lia)
 cases e:Tr.del x t with
 | none=>
  rw[e] at hi
  exact Wo P.f72 rfl (Zm7 (Jh (Zjo (Wm (Xf (Za a1 (Za a2 Ze))) hi))))
 | some t'=>
  rw[e] at hi
  have hw2:=hw.set t' m
  refine Wo P.f72 rfl (Zft (ℓ':=[some (.obj w),some (.int x.a),some (.int x.b),some (.int x.c),none,none,none,none,none,none,none,none]) (Zc (Zbp (Wm (Xf (Za a1 (Za a2 Ze))) hi) (Zb rfl) hw.ns) ?_))
  have s2:=Zbp (C:=⟨pg,Zh pg (d+4)⟩) (ℓ:=[some (.obj w),some (.int x.a),some (.int x.b),some (.int x.c),none,none,none,none,none,none,none,none]) (k:=1) (Qp (Zi (op:=.sub) (Zdf (a:=.var 0) (k:=1) (Zb rfl) hw2.ns rfl) Zf (Ye m 1 _))) (Zb (i:=0) rfl) hw2.ns
  have e2:Yi (Yi σ n (.ns [(0,t'.v),(1,.int m)])) n (.ns [(0,t'.v),(1,.int (m-1))])=Yi σ n (.ns [(0,t'.v),(1,.int (m-1))]):=List.set_set ..
  rw[show Yi (Yi σ n (.ns [(0,t'.v),(1,.int m)])) (n,[(0,t'.v),(1,V.int m)]).1 (.ns (Zav (n,[(0,t'.v),(1,V.int m)]).2 1 (.int (m-1))))=Yi σ n (.ns [(0,t'.v),(1,.int (m-1))]) from e2] at s2
  exact Zv s2
end
noncomputable def Zu9:St:=(.asg (.one 1) (.bin .sub (.bin .mod .v0 (.i 41)) (.i 20)))
noncomputable def Zva:St:=(.asg (.one 2) (.bin .mod (.bin .fdiv .v0 (.i 41)) (.i 4)))
noncomputable def Zvb:St:=(.asg (.one 3) (.bin .add (.i 1) (.bin .mod (.bin .fdiv .v0 (.i 164)) (.i 3))))
noncomputable def Zvc:St:=(.asg (.one 4) (.bin .add (.i 1) (.bin .mod (.bin .fdiv .v0 (.i 492)) (.i 3))))
noncomputable def Zvd:St:=(.ret (.comp (.tup (.cons (.bin .add .v1 (.bin .mul .v2 .v6)) (.cons (.bin .add (.bin .add .v1 (.bin .mul .v2 .v6)) (.bin .mod .v6 .v3)) (.cons (.bin .fdiv .v6 .v4) .nil)))) 6 (.rng1 (.bin .add (.bin .mod (.bin .fdiv .v0 (.i 1476)) (.i 16)) (.i 4))) .nil))
noncomputable def B34:Ss:=.cons Zu9 <| .cons Zva <| .cons Zvb <| .cons Zvc <| .cons Zvd <| .nil
noncomputable def Zqy:St:=(.asg (.one 2) (.idx .v1 (.bin .mod (.bin .fdiv .v0 (.i 3)) (.blt .len (.cons .v1 .nil)))))
noncomputable def Zve:St:=(.ife (.cmp (.idx .v2 (.i 2)) (.one .gt (.i 0))) (.cons (.ret (.tup (.cons (.idx .v2 (.i 0)) (.cons (.idx .v2 (.i 1)) (.cons (.bin .sub (.idx .v2 (.i 2)) (.i 1)) .nil))))) .nil) .nil)
noncomputable def Zvf:St:=(.ret (.tup (.cons (.idx .v2 (.i 0)) (.cons (.idx .v2 (.i 1)) (.cons (.bin .add (.idx .v2 (.i 2)) (.i 1)) .nil)))))
noncomputable def B35:Ss:=.cons Zqy <| .cons Zve <| .cons Zvf <| .nil
noncomputable def Zvg:St:=(.ife (.and (.cmp (.bin .mod .v0 (.i 8)) (.one .eq (.i 7))) (.cmp (.blt .len (.cons .v2 .nil)) (.one .lt (.i 40)))) (.cons (.ret (.call 34 (.cons .v1 .nil))) .nil) .nil)
noncomputable def Zvh:St:=(.ife (.and (.cmp (.blt .len (.cons .v2 .nil)) (.one .gt (.i 0))) (.and (.cmp (.bin .mod .v0 (.i 8)) (.one .mem (.tup (.cons (.i 2) (.cons (.i 3) .nil))))) (.cmp (.bin .mod (.bin .fdiv .v1 (.i 5)) (.i 3)) (.one .eq (.i 0))))) (.cons (.ret (.lst (.cons (.call 35 (.cons .v1 (.cons .v2 .nil))) .nil))) .nil) .nil)
noncomputable def Zvi:St:=(.ife (.and (.cmp (.bin .mod .v0 (.i 8)) (.one .gt (.i 3))) (.cmp (.blt .len (.cons .v2 .nil)) (.one .gt (.i 0)))) (.cons (.ife (.cmp (.bin .mod .v0 (.i 8)) (.one .eq (.i 6))) (.cons (.ret (.slc (.slc .v2 (.yes (.bin .mod .v1 (.i 2))) .no (.yes (.i 2))) .no (.yes (.i 20)) .no)) .nil) .nil) (.cons (.ret (.lst (.cons (.idx .v2 (.bin .mod (.bin .fdiv .v1 (.i 3)) (.blt .len (.cons .v2 .nil)))) .nil))) .nil)) .nil)
noncomputable def Zvj:St:=(.ret (.lst (.cons (.call 17 (.cons .v1 .nil)) .nil)))
noncomputable def B36:Ss:=.cons Zvg <| .cons Zvh <| .cons Zvi <| .cons Zvj <| .nil
noncomputable def Zvk:St:=(.ife (.cmp (.bin .mod (.bin .fdiv .v0 (.i 16)) (.i 16)) (.one .ne (.i 5))) (.cons (.ret (.lst .nil)) .nil) .nil)
noncomputable def Zvl:St:=(.asg (.one 1) (.bin .add (.i 1) (.bin .mod (.bin .fdiv .v0 (.i 256)) (.i 9))))
noncomputable def Zvm:St:=(.ret (.comp (.tup (.cons (.bin .sub (.bin .mul (.i 3) .v3) (.i 90)) (.cons (.bin .add (.bin .sub (.bin .mul (.i 3) .v3) (.i 90)) (.bin .mod (.bin .mul .v3 .v3) .v1)) (.cons .v3 .nil)))) 3 (.rng1 (.bin .add (.i 64) (.bin .mod .v0 (.i 21)))) .nil))
noncomputable def B37:Ss:=.cons Zvk <| .cons Zvl <| .cons Zvm <| .nil
noncomputable def Zvn:St:=(.ife (.cmp (.idx .v1 (.i 2)) (.one .ne (.lit (.str { cps:=#[100,111,110,101] })))) (.cons (.ret .v0) .nil) .nil)
noncomputable def Zvo:St:=(.ife (.cmp (.idx .v1 (.i 0)) (.one .eq (.lit (.str { cps:=#[112,117,116] })))) (.cons (.ret (.blt .sorted (.cons (.bin .add .v0 (.lst (.cons (.idx .v1 (.i 1)) .nil))) .nil))) .nil) .nil)
noncomputable def Zvp:St:=(.ret (.comp .v3 3 (.ex .v0) (.cons (.cmp .v3 (.one .ne (.idx .v1 (.i 1)))) .nil)))
noncomputable def B39:Ss:=.cons Zvn <| .cons Zvo <| .cons Zvp <| .nil
noncomputable def Zqz:St:=(.asg (.one 2) (.idx .v1 (.i 1)))
noncomputable def Zvq:St:=(.try_ (.cons (.ife (.cmp (.idx .v1 (.i 0)) (.one .eq (.lit (.str { cps:=#[112,117,116] })))) (.cons (.expr (.ucall 1 .v0 (.cons (.idx .v2 (.i 0)) (.cons (.idx .v2 (.i 1)) (.cons (.idx .v2 (.i 2)) .nil))))) .nil) (.cons (.expr (.ucall 2 .v0 (.cons (.idx .v2 (.i 0)) (.cons (.idx .v2 (.i 1)) (.cons (.idx .v2 (.i 2)) .nil))))) .nil)) .nil) 10 (.cons (.ret (.cmp (.idx .v1 (.i 2)) (.one .ne (.lit (.str { cps:=#[100,111,110,101] }))))) .nil))
noncomputable def Zq0:St:=(.ret (.cmp (.idx .v1 (.i 2)) (.one .eq (.lit (.str { cps:=#[100,111,110,101] })))))
noncomputable def B45:Ss:=.cons Zqz <| .cons Zvq <| .cons Zq0 <| .nil
noncomputable def Zvr:St:=(.asg (.one 2) (.bin .sub (.bin .mod .v0 (.i 81)) (.i 40)))
noncomputable def Zvs:St:=(.asg (.one 3) (.bin .add .v2 (.bin .mod (.bin .fdiv .v0 (.i 81)) (.i 30))))
noncomputable def Zvt:St:=(.asg (.one 4) (.bin .mod (.bin .mul .v0 (.i 69621)) (.i 1000003)))
noncomputable def Zq1:St:=(.ife (.and (.cmp (.blt .len (.cons .v1 .nil)) (.one .gt (.i 0))) (.cmp (.bin .mod (.bin .fdiv .v0 (.i 2430)) (.i 4)) (.one .gt (.i 0)))) (.cons (.asg (.one 5) (.idx .v1 (.bin .mod (.bin .fdiv .v0 (.i 9720)) (.blt .len (.cons .v1 .nil))))) (.cons (.asg (.one 2) (.bin .sub (.bin .add (.idx .v5 (.bin .mod .v4 (.i 2))) (.bin .mod (.bin .fdiv .v4 (.i 2)) (.i 5))) (.i 2))) (.cons (.asg (.one 3) (.bin .add .v2 (.bin .mul (.bin .mod (.bin .fdiv .v4 (.i 10)) (.i 20)) (.bin .mod (.bin .fdiv .v4 (.i 200)) (.i 3))))) (.cons (.ife (.cmp (.bin .mod (.bin .fdiv .v4 (.i 19200)) (.i 3)) (.one .eq (.i 0))) (.cons (.asg (.one 3) (.bin .sub (.bin .add (.idx (.idx .v1 (.bin .mod (.bin .mod (.bin .mul .v0 (.i 16807)) (.i 1000033)) (.blt .len (.cons .v1 .nil)))) (.i 1)) (.bin .mod (.bin .fdiv .v4 (.i 7)) (.i 5))) (.i 2))) .nil) .nil) .nil)))) .nil)
noncomputable def Zq2:St:=(.ife (.cmp (.bin .mod (.bin .fdiv .v4 (.i 600)) (.i 32)) (.one .eq (.i 3))) (.cons (.asg (.one 2) (.bin .sub (.i 1) (.bin .pow (.i 10) (.i 60)))) .nil) .nil)
noncomputable def Zq3:St:=(.ife (.cmp (.bin .mod (.bin .fdiv .v4 (.i 600)) (.i 32)) (.one .gt (.i 29))) (.cons (.asg (.one 3) (.bin .sub (.bin .pow (.i 10) (.i 60)) (.i 1))) .nil) .nil)
noncomputable def Zvu:St:=(.asg (.one 2) (.blt .max (.cons (.bin .sub (.i 1) (.bin .pow (.i 10) (.i 60))) (.cons (.blt .min (.cons .v2 (.cons (.bin .sub (.bin .pow (.i 10) (.i 60)) (.i 1)) .nil))) .nil))))
noncomputable def Zvv:St:=(.ret (.tup (.cons .v2 (.cons (.blt .max (.cons .v2 (.cons (.blt .min (.cons .v3 (.cons (.bin .sub (.bin .pow (.i 10) (.i 60)) (.i 1)) .nil))) .nil))) .nil))))
noncomputable def B29:Ss:=.cons Zvr <| .cons Zvs <| .cons Zvt <| .cons Zq1 <| .cons Zq2 <| .cons Zq3 <| .cons Zvu <| .cons Zvv <| .nil
noncomputable def mn (x y:Int):Int:=if y<x then y else x
theorem Zq4 (x y:Int):mn x y≤x∧mn x y≤y:=by unfold mn;split <;> lia
theorem Znc {x y z:Int}(h1:x≤z)(h2:y≤z):mx x y≤z:=by unfold mx;split <;> assumption
theorem Zhm (a b:Int):mulOK (a.fmod 20) (b.fmod 3):=by
 refine .inl ?_
 have h1:=(Z8 a (m:=20) (by exact lin [] (.zlt .k0 (.k 20)) (.d 11) rfl [] [])).1
 have h2:=(Z8 a (m:=20) (by exact lin [] (.zlt .k0 (.k 20)) (.d 11) rfl [] [])).2
 have:(a.fmod 20).natAbs<20:=by lia
 exact Nat.lt_trans this (by decide)
structure PWd (pg:Pg):Prop extends P2 pg where
 f16:pg.fn 16=some ⟨[0,1],10,B16,.pure⟩
 f17:pg.fn 17=some ⟨[0],12,B17,.pure⟩
 f25:pg.fn 25=some ⟨[0],9,B25,.pure⟩
 f34:pg.fn 34=some ⟨[0],13,B34,.fresh⟩
 f35:pg.fn 35=some ⟨[0,1],11,B35,.pure⟩
 f36:pg.fn 36=some ⟨[0,1,2],11,B36,.fresh⟩
 f39:pg.fn 39=some ⟨[0,1],10,B39,.fresh⟩
section
variable {pg:Pg}
theorem Zjx (a:Int){m:Int}(h:0<m):0≤a.fmod m:=(Z8 a h).1
theorem Zhn (a:Int){m:Int}(h:0<m):a.fmod m<m:=(Z8 a h).2
theorem Zbe {r:Nat}{ts:List T3}(hr:σ[r]?=some (.list (ts.map T3.v)))(hne:0<ts.length)(a:Int):∃x∈ts,Yo σ (.obj r) (.int (a.fmod ts.length))=some x.v:=by
 have h1:=Zjx a (m:=ts.length) (by exact ln1 [(.lt .k0 .v0)] (.zlt .k0 (.n .v0)) (.d 111) rfl hne)
 have h2:=Zhn a (m:=ts.length) (by exact ln1 [(.lt .k0 .v0)] (.zlt .k0 (.n .v0)) (.d 111) rfl hne)
 refine rE (fun k hk=>?_) (Int.eq_ofNat_of_zero_le h1)
 rw[hk] at h2 ⊢
 have hk2:k<ts.length:=by exact ln2 [(.zlt (.n .v0) (.n .v1))] (.lt .v0 .v1) (.d 111) rfl h2
 refine ⟨ts[k],List.getElem_mem hk2,?_⟩
 rw[We hr (k:=k) (by simpa using hk2)]
 simp
theorem Zpu (σ:H)(x:T3)(a:Int):∃z,Yo σ x.v (.int (a.fmod 2))=some (.int z):=by
 have h1:=Zjx a (m:=2) (by exact lin [] (.zlt .k0 (.k 2)) (.d 11) rfl [] [])
 have h2:=Zhn a (m:=2) (by exact lin [] (.zlt .k0 (.k 2)) (.d 11) rfl [] [])
 have:a.fmod 2=0∨a.fmod 2=1:=by exact lz1 [(.zle .k0 .v0),(.zlt .v0 (.k 2))] (.or (.zeq .v0 .k0) (.zeq .v0 .k1)) (.s (.s (.d 1101) (.d 111)) (.s (.d 111) (.d 10101))) rfl h1 h2
 rcases this with h | h <;> rw[h]
 ·exact ⟨x.a,rfl⟩
 ·exact ⟨x.b,rfl⟩
theorem Wz {r:Nat}{ts:List T3}(hr:σ[r]?=some (.list (ts.map T3.v))):Wa .len [.obj r] σ=some (.int ts.length,σ):=by
 show (items σ (.obj r)).map _=_
 rw[Uc hr];simp
abbrev f81:(81:Int)≠0∧(81:Int).natAbs<2^256:=⟨by decide,by decide⟩
theorem fd (k:Nat)(h:0<k∧k<100000:=by decide):((k:Int))≠0∧((k:Int)).natAbs<2^256:=⟨by exact ln1 [(.an (.lt .k0 .v0) (.lt .v0 (.k 100000)))] (.no (.zeq (.n .v0) .k0)) (.d 1101) rfl h,by have:((k:Int)).natAbs=k:=rfl;rw[this];exact Nat.lt_trans h.2 (by decide)⟩
theorem ml {a b:Int}(h:b.natAbs<2^64):mulOK a b:=.inr (.inl h)
set_option tactic.hygienic true in
theorem Zjy (h29:pg.fn 29=some ⟨[0,1],14,B29,.pure⟩)(d:Nat)(s:Int){r:Nat}{ts:List T3}(hr:σ[r]?=some (.list (ts.map T3.v))) :
  ∃lo hi,Zh pg (d+1) 29 [.int s,.obj r] σ=some (.ok (.tup [.int lo,.int hi]),σ)∧-10^60<lo∧lo≤hi∧hi<10^60:=by
 -- the middle row
 have mid:∀lo0 hi0 m:Int,∃lo1 hi1 v5,exec ⟨pg,Zh pg d⟩ Zq1 [some (.int s),some (.obj r),some (.int lo0),some (.int hi0),some (.int m),none,none,none,none,none,none,none,none,none] σ=some (.next,[some (.int s),some (.obj r),some (.int lo1),some (.int hi1),some (.int m),v5,none,none,none,none,none,none,none,none],σ):=by
  intro lo0 hi0 m
  have hlen:=Wz hr
  have l1:∀ℓ:L,ℓ[1]?.join=some (.obj r)→Zg ⟨pg,Zh pg d⟩ (Ex.blt Blt.len (Es.cons (Ex.var 1) Es.nil)) ℓ σ=some (.ok (.int ts.length),σ):=fun ℓ h=>Z6 (Za (Zb h) Ze) hlen
  by_cases c0:0<ts.length
  ·by_cases c1:0<(s.fdiv 2430).fmod 4
   ·refine rEA (fun x u1_ hx=>?_) (Zbe hr c0 (s.fdiv 9720))
    refine rEA (fun y u1_ hy=>?_) (Zbe hr c0 ((s*16807).fmod 1000033))
    refine rE (fun z hz=>?_) (Zpu σ x m)
    have hc:=Qo (C:=⟨pg,Zh pg d⟩) (Zk (l1 [some (.int s),some (.obj r),some (.int lo0),some (.int hi0),some (.int m),none,none,none,none,none,none,none,none,none] rfl) Zf (gtT (i:=ts.length) (j:=0) (by exact ln1 [(.lt .k0 .v0)] (.zlt .k0 (.n .v0)) (.d 111) rfl c0))) (Zk (Zi (Zi (Zb (i:=0) rfl) Zf (Zt (fd 2430) σ)) Zf (Zr (by decide) σ)) Zf (gtT c1))
    by_cases c2:(m.fdiv 19200).fmod 3=0
    ·refine ⟨_,_,_,Z7 hc (Zc (Zx (Y8 (Zb rfl) (Zi (Zi (Zb rfl) Zf (Zt (fd 9720) σ)) (l1 _ rfl) (Zr (by exact ln1 [(.lt .k0 .v0)] (.no (.zeq (.n .v0) .k0)) (.d 1101) rfl c0) σ)) hx) rfl) (Zc (Zx (Zi (Zi (Y8 (Zb rfl) (Zi (Zb rfl) Zf (Zr (by decide) σ)) hz) (Zi (Zi (Zb rfl) Zf (Zt (fd 2) σ)) Zf (Zr (by decide) σ)) (Z2 _ _ _)) Zf (Ye _ _ _)) rfl) (Zc (Zx (Zi (Zb rfl) (Zi (Zi (Zi (Zb rfl) Zf (Zt (fd 10) σ)) Zf (Zr (by decide) σ)) (Zi (Zi (Zb rfl) Zf (Zt (fd 200) σ)) Zf (Zr (by decide) σ)) (Je (Zhm _ _) σ)) (Z2 _ _ _)) rfl) (Zv (Z7 (Zk (Zi (Zi (Zb rfl) Zf (Zt (fd 19200) σ)) Zf (Zr (by decide) σ)) Zf (eqT c2)) (Zv (Zx (Zi (Zi (Y8 (Y8 (Zb rfl) (Zi (Zi (Zi (Zb rfl) Zf (Je (ml (by decide)) σ)) Zf (Zr (by decide) σ)) (l1 _ rfl) (Zr (by exact ln1 [(.lt .k0 .v0)] (.no (.zeq (.n .v0) .k0)) (.d 1101) rfl c0) σ)) hy) Zf rfl) (Zi (Zi (Zb rfl) Zf (Zt (fd 7) σ)) Zf (Zr (by decide) σ)) (Z2 _ _ _)) Zf (Ye _ _ _)) rfl)))))))⟩
    ·refine ⟨_,_,_,Z7 hc (Zc (Zx (Y8 (Zb rfl) (Zi (Zi (Zb rfl) Zf (Zt (fd 9720) σ)) (l1 _ rfl) (Zr (by exact ln1 [(.lt .k0 .v0)] (.no (.zeq (.n .v0) .k0)) (.d 1101) rfl c0) σ)) hx) rfl) (Zc (Zx (Zi (Zi (Y8 (Zb rfl) (Zi (Zb rfl) Zf (Zr (by decide) σ)) hz) (Zi (Zi (Zb rfl) Zf (Zt (fd 2) σ)) Zf (Zr (by decide) σ)) (Z2 _ _ _)) Zf (Ye _ _ _)) rfl) (Zc (Zx (Zi (Zb rfl) (Zi (Zi (Zi (Zb rfl) Zf (Zt (fd 10) σ)) Zf (Zr (by decide) σ)) (Zi (Zi (Zb rfl) Zf (Zt (fd 200) σ)) Zf (Zr (by decide) σ)) (Je (Zhm _ _) σ)) (Z2 _ _ _)) rfl) (Zv (Zq (Zk (Zi (Zi (Zb rfl) Zf (Zt (fd 19200) σ)) Zf (Zr (by decide) σ)) Zf (eqF c2)) Zn)))))⟩
   ·have hc:=Qo (C:=⟨pg,Zh pg d⟩) (Zk (l1 [some (.int s),some (.obj r),some (.int lo0),some (.int hi0),some (.int m),none,none,none,none,none,none,none,none,none] rfl) Zf (gtT (i:=ts.length) (j:=0) (by exact ln1 [(.lt .k0 .v0)] (.zlt .k0 (.n .v0)) (.d 111) rfl c0))) (Zk (Zi (Zi (Zb (i:=0) rfl) Zf (Zt (fd 2430) σ)) Zf (Zr (by decide) σ)) Zf (gtF c1))
    exact ⟨_,_,_,Zq hc Zn⟩
  ·have hc:=U4 (b:=(Ex.cmp (Ex.bin Bop.mod (Ex.bin Bop.fdiv (Ex.var 0) (Ex.lit (V.int 2430))) (Ex.lit (V.int 4))) (Ch.one Cop.gt (Ex.lit (V.int 0))))) (Zk (l1 [some (.int s),some (.obj r),some (.int lo0),some (.int hi0),some (.int m),none,none,none,none,none,none,none,none,none] rfl) Zf (gtF (i:=ts.length) (j:=0) (by exact ln1 [(.no (.lt .k0 .v0))] (.no (.zlt .k0 (.n .v0))) (.d 111) rfl c0)))
   exact ⟨_,_,_,Zq hc Zn⟩
 refine Zch (fun lo1 hi1 v5 e3=>?_) (mid (s.fmod 81-40) (s.fmod 81-40+(s.fdiv 81).fmod 30) ((s*69621).fmod 1000003))
 have p60:∀ℓ:L,Zg ⟨pg,Zh pg d⟩ (Ex.bin Bop.sub (Ex.bin Bop.pow (Ex.lit (V.int 10)) (Ex.lit (V.int 60))) (Ex.lit (V.int 1))) ℓ σ=some (.ok (.int (10^60-1)),σ):=fun ℓ=>Zi (Zi Zf Zf (Ju (by decide) σ)) Zf (Ye _ _ _)
 have n60:∀ℓ:L,Zg ⟨pg,Zh pg d⟩ (Ex.bin Bop.sub (Ex.lit (V.int 1)) (Ex.bin Bop.pow (Ex.lit (V.int 10)) (Ex.lit (V.int 60)))) ℓ σ=some (.ok (.int (1-10^60)),σ):=fun ℓ=>Zi Zf (Zi Zf Zf (Ju (by decide) σ)) (Ye _ _ _)
 obtain ⟨lo2,e4⟩ : ∃lo2,exec ⟨pg,Zh pg d⟩ Zq2 [some (.int s),some (.obj r),some (.int lo1),some (.int hi1),some (.int ((s*69621).fmod 1000003)),v5,none,none,none,none,none,none,none,none] σ=some (.next,[some (.int s),some (.obj r),some (.int lo2),some (.int hi1),some (.int ((s*69621).fmod 1000003)),v5,none,none,none,none,none,none,none,none],σ):=by
  by_cases c:(((s*69621).fmod 1000003).fdiv 600).fmod 32=3
  ·exact ⟨_,Z7 (Zk (Zi (Zi (Zb rfl) Zf (Zt (fd 600) σ)) Zf (Zr (by decide) σ)) Zf (eqT c)) (Zv (Zx (n60 _) rfl))⟩
  ·exact ⟨_,Zq (Zk (Zi (Zi (Zb rfl) Zf (Zt (fd 600) σ)) Zf (Zr (by decide) σ)) Zf (eqF c)) Zn⟩
 obtain ⟨hi2,e5⟩ : ∃hi2,exec ⟨pg,Zh pg d⟩ Zq3 [some (.int s),some (.obj r),some (.int lo2),some (.int hi1),some (.int ((s*69621).fmod 1000003)),v5,none,none,none,none,none,none,none,none] σ=some (.next,[some (.int s),some (.obj r),some (.int lo2),some (.int hi2),some (.int ((s*69621).fmod 1000003)),v5,none,none,none,none,none,none,none,none],σ):=by
  by_cases c:29<(((s*69621).fmod 1000003).fdiv 600).fmod 32
  ·exact ⟨_,Z7 (Zk (Zi (Zi (Zb rfl) Zf (Zt (fd 600) σ)) Zf (Zr (by decide) σ)) Zf (gtT c)) (Zv (Zx (p60 _) rfl))⟩
  ·exact ⟨_,Zq (Zk (Zi (Zi (Zb rfl) Zf (Zt (fd 600) σ)) Zf (Zr (by decide) σ)) Zf (gtF c)) Zn⟩
 refine ⟨mx (1-10^60) (mn lo2 (10^60-1)),mx (mx (1-10^60) (mn lo2 (10^60-1))) (mn hi2 (10^60-1)),?_,?_⟩
 ·exact Yz h29 rfl (Zc (Zx (Zi (Zi (Zb rfl) Zf (Zr (by decide) σ)) Zf (Ye _ _ _)) rfl) (Zc (Zx (Zi (Zb rfl) (Zi (Zi (Zb rfl) Zf (Zt (fd 81) σ)) Zf (Zr (by decide) σ)) (Z2 _ _ _)) rfl) (Zc (Zx (Zi (Zi (Zb rfl) Zf (Je (ml (by decide)) σ)) Zf (Zr (by decide) σ)) rfl) (Zc e3 (Zc e4 (Zc e5 (Zc (Zx (Z6 (Za (n60 _) (Za (Z6 (Za (Zb rfl) (Za (p60 _) Ze)) rfl) Ze)) rfl) rfl) (Zp (Z1 (Y4 (Za (Zb rfl) (Za (Z6 (Za (Zb rfl) (Za (Z6 (Za (Zb rfl) (Za (p60 _) Ze)) rfl) Ze)) rfl) Ze)) rfl))))))))))  rfl
 ·have a1:=Zqt (1-10^60) (mn lo2 (10^60-1))
  have a2:=Zq4 lo2 (10^60-1)
  have a3:=Zqt (mx (1-10^60) (mn lo2 (10^60-1))) (mn hi2 (10^60-1))
  have a4:=Zq4 hi2 (10^60-1)
  have a5:mx (1-10^60) (mn lo2 (10^60-1))≤10^60-1:=Znc (by decide) a2.2
  have a6:=Znc a5 a4.2
  exact ⟨Int.lt_of_lt_of_le (by decide) a1.1,a3.1,Int.lt_of_le_of_lt a6 (by decide)⟩
theorem Zk6 {C:Cl}{r u i:Nat}{ts:List T3}{ifs:Es}{lo hi:Int}(hr:σ[r]?=some (.list (ts.map T3.v)))(h1:ℓ[i]?.join=some (.obj r))(ht:u<ℓ.length)(hl:ts.length≤1000)
  (hi':∀x:T3,Ji C ifs (ℓ.set u (some x.v)) σ=some (.ok (decide (x.a≤hi)&&decide (lo≤x.b)),σ)):Zg C (.comp (.var u) u (.ex (.var i)) ifs) ℓ σ=some (.ok (.obj σ.length),σ++[.list ((Zuo lo hi ts).map T3.v)]):=by
 have:=Yx (C:=C) (elt:=.var u) (tg:=u) (it:=.ex (.var i)) (ifs:=ifs) (ℓ:=ℓ) T3.v (fun x=>if (decide (x.a≤hi)&&decide (lo≤x.b))=true then some x.v else none) (Jc (Zb h1) hr) hr ht (Nat.le_trans hl (by decide)) fun x u_=>Zcb (hi' x) (Zb (by rw[List.getElem?_set_self ht];rfl))
 rw[Yp] at this
 exact this
noncomputable def tD (x:T3):PyData:=.tuple ([x.a,x.b,x.c].map PyData.int)
theorem gl (σ:H)(o:O):(σ++[o])[σ.length]?=some o:=by simp
theorem Zdm {i j:Nat}{l l':List V}(h1:σ[i]?=some (.list l))(h2:σ[j]?=some (.list l'))(h:(l++l').length≤Zl):J1 .add (.obj i) (.obj j) σ=some (.obj σ.length,σ++[.list (l++l')]):=by
 rw[Zjr (Zs h1) (Zs h2),Jv h]
noncomputable def zT:T3:=⟨0,0,0⟩
theorem Zq5 (C:Cl)(ℓ:L)(σ:H):Zg C (Ex.tup (Es.cons (Ex.lit (V.int 0)) (Es.cons (Ex.lit (V.int 0)) (Es.cons (Ex.lit (V.int 0)) Es.nil)))) ℓ σ=some (.ok zT.v,σ):=Y4 (Za Zf (Za Zf (Za Zf Ze))) rfl
theorem Zte (ts:List T3)(x:T3):ts.map T3.v++[x.v]=(ts++[x]).map T3.v:=by simp
end
structure Dd where
 p:Bool
 x:T3
 ok:Bool
noncomputable def Zvw:Str:={ cps:=#[112,117,116] }
noncomputable def Zq6:Str:={ cps:=#[116,97,107,101] }
noncomputable def Zvx:Str:={ cps:=#[100,111,110,101] }
noncomputable def Ztf:Str:={ cps:=#[116,119,105,99,101] }
noncomputable def Znd:Str:={ cps:=#[109,105,115,115,105,110,103] }
noncomputable def Zii (p ok:Bool):Str:=if ok then Zvx else if p then Ztf else Znd
noncomputable def ddV (d:Dd):V:=.tup [.str (if d.p then Zvw else Zq6),d.x.v,.str (Zii d.p d.ok)]
noncomputable def nxt (S:List T3)(d:Dd):List T3:=if d.ok then (if d.p then S++[d.x] else S.filter fun y=>!decide (y=d.x)) else S
noncomputable def beh (S:List T3)(d:Dd):List T3:=if d.ok then (if d.p then (S++[d.x]).mergeSort T3.le else S.filter fun y=>!decide (y=d.x)) else S
theorem Zjz {s s':Str}{b:Bool}(h:PyData.strOk s=true)(h':PyData.strOk s'=true)(hb:PyData.eqv (.str s) (.str s')=b)(σ:H):Z9 .eq (.str s) (.str s') σ=some b:=by
 have e1:∀s:Str,PyData.strOk s=true→toD 6 σ (.str s)=some (.str s):=fun s h=>if_pos h
 show eqV σ (.str s) (.str s')=_
 unfold eqV
 rw[e1 s h,e1 s' h',← hb]
theorem Zvy {s s':Str}{b:Bool}(h:PyData.strOk s=true)(h':PyData.strOk s'=true)(hb:PyData.eqv (.str s) (.str s')=b)(σ:H):Z9 .ne (.str s) (.str s') σ=some (!b):=by
 have:=Zjz h h' hb σ
 show (eqV σ (.str s) (.str s')).map (!·)=_
 rw[show eqV σ (.str s) (.str s')=some b from this];rfl
theorem Zne (p:Bool)(σ:H):Z9 .eq (.str (if p then Zvw else Zq6)) (.str { cps:=#[112,117,116] }) σ=some p:=by
 cases p
 ·exact Zjz (by decide +kernel) (by decide +kernel) (by decide +kernel) σ
 ·exact Zjz (by decide +kernel) (by decide +kernel) (by decide +kernel) σ
theorem Zpv (p ok:Bool)(σ:H):Z9 .eq (.str (Zii p ok)) (.str { cps:=#[100,111,110,101] }) σ=some ok:=by
 cases ok <;> cases p <;> exact Zjz (by decide +kernel) (by decide +kernel) (by decide +kernel) σ
theorem Zho (p ok:Bool)(σ:H):Z9 .ne (.str (Zii p ok)) (.str { cps:=#[100,111,110,101] }) σ=some (!ok):=by
 cases ok <;> cases p <;> exact Zvy (by decide +kernel) (by decide +kernel) (by decide +kernel) σ
theorem Tr.sz_bal (x:T3)(l r:Tr):(Tr.bal x l r).sz=l.sz+r.sz+1:=by
 rw[← Tr.sz_tl,Tr.tl_bal,List.length_append,List.length_cons,Tr.sz_tl,Tr.sz_tl];exact ln2 [] (.eq (.a .v0 (.a .v1 .k1)) (.a (.a .v0 .v1) .k1)) (.s (.d 11) (.d 11)) rfl
theorem Tr.ins_sz (x:T3):∀{t t':Tr},Tr.ins x t=some t'→t'.sz=t.sz+1
 | .nil,t',h=>by refine siE h ?_;rfl
 | .node y l r,t',h=>by
  rw[Tr.ins_1] at h
  split at h
  ·exact nn h
  ·split at h
   ·refine rEA (fun a h1 hO2=>?_) (Option.map_eq_some_iff.mp h);refine eqE hO2 ?_
    rw[Tr.sz_bal,Tr.ins_sz x h1];simp only[Tr.sz_0,Tr.sz_1];exact ln2 [] (.eq (.a (.a (.a .v0 .k1) .v1) .k1) (.a (.a (.a .v0 .v1) .k1) .k1)) (.s (.d 11) (.d 11)) rfl
   ·refine rEA (fun a h1 hO2=>?_) (Option.map_eq_some_iff.mp h);refine eqE hO2 ?_
    rw[Tr.sz_bal,Tr.ins_sz x h1];simp only[Tr.sz_0,Tr.sz_1];exact ln2 [] (.eq (.a (.a .v0 (.a .v1 .k1)) .k1) (.a (.a (.a .v0 .v1) .k1) .k1)) (.s (.d 11) (.d 11)) rfl
set_option tactic.hygienic true in
theorem Tr.del_sz:∀{t t':Tr} (x:T3),Tr.del x t=some t'→t'.sz+1=t.sz
 | .nil,t',x,h=>by exact nn h
 | .node y l r,t',x,h=>by
  rw[Tr.del_1] at h
  split at h
  ·refine rEA (fun a h1 hO2=>?_) (Option.map_eq_some_iff.mp h);refine eqE hO2 ?_
   have:=Tr.del_sz x h1
   rw[Tr.sz_bal];simp only[Tr.sz_0,Tr.sz_1];lia
  ·split at h
   ·refine rEA (fun a h1 hO2=>?_) (Option.map_eq_some_iff.mp h);refine eqE hO2 ?_
    have:=Tr.del_sz x h1
    rw[Tr.sz_bal];simp only[Tr.sz_0,Tr.sz_1];lia
   ·split at h
    ·rename_i hn
     refine siE h ?_
     cases l with
     | nil=>simp only[Tr.sz_0,Tr.sz_1];exact ln1 [] (.eq (.a .v0 .k1) (.a (.a .k0 .v0) .k1)) (.s (.d 11) (.d 11)) rfl
     | node _ _ _=>exact ft hn
    ·split at h
     ·rename_i hn
      refine siE h ?_
      cases r with
      | nil=>simp only[Tr.sz_0,Tr.sz_1]
      | node _ _ _=>exact ft hn
     ·refine rEA (fun a h1 hO2=>?_) (Option.map_eq_some_iff.mp h);refine eqE hO2 ?_
      have:=Tr.del_sz _ h1
      rw[Tr.sz_bal];simp only[Tr.sz_0,Tr.sz_1];lia
section
variable {pg:Pg}
set_option tactic.hygienic true in
theorem Znf {C:Cl}{b h:Ss}{k:Nat}{ℓ1:L}(hb:execs C b ℓ σ=some (.next,ℓ1,σ1)):exec C (.try_ b k h) ℓ σ=some (.next,ℓ1,σ1):=by
 show Zcr (execs C b ℓ σ) k _=_
 rw[hb];rfl
theorem Zng {C:Cl}{b h:Ss}{k c:Nat}{v:V}{ℓ1 ℓ2:L}{σ2:H}(hb:execs C b ℓ σ=some (.exc c,ℓ1,σ1))(hs:Xp c k=true)(hh:execs C h ℓ1 σ1=some (.ret v,ℓ2,σ2)):exec C (.try_ b k h) ℓ σ=some (.ret v,ℓ2,σ2):=by
 show Zcr (execs C b ℓ σ) k _=_
 rw[hb]
 show (if Xp c k=true then Zi1 (execs C h ℓ1 σ1) else .none)=_
 rw[if_pos hs,hh];rfl
set_option tactic.hygienic true in
theorem Zvz (P:PWd pg)(h45:pg.fn 45=some ⟨[0,1],11,B45,.raw⟩)(e:Nat){d:Dd}(ho:okT d.x){w n:Nat}{t:Tr}{m:Int}(hw:Wd w n σ t m)(hs:Srt3 t.tl)(hd:t.sz≤e)(hsz:t.sz<1000)(hok:d.ok=if d.p then !(decide (d.x∈t.tl)) else decide (d.x∈t.tl)) :
  ∃σ' t' m',Zh pg (e+6) 45 [.obj w,ddV d] σ=some (.ok (.bool true),σ')∧Wd w n σ' t' m'∧σ'.length=σ.length∧(∀(k:Nat) o,k≠n→σ[k]?=some o→σ'[k]?=some o)∧Srt3 t'.tl∧(∀y,y∈t'.tl↔y∈nxt t.tl d)∧t'.sz≤t.sz+1∧(t.avl→t'.avl)∧(m=t.sz→m'=t'.sz):=by
 refine byC fun hX=>?_;obtain ⟨p,x,ok⟩:=d;refine hX ?_;clear hX
 have c0:∀q,Zg ⟨pg,Zh pg (e+5)⟩ (Ex.cmp (Ex.idx (Ex.var 1) (Ex.lit (V.int 0))) (Ch.one Cop.eq (Ex.lit (V.str { cps:=#[112,117,116] })))) [some (.obj w),some (ddV ⟨q,x,ok⟩),some x.v,none,none,none,none,none,none,none,none] σ=some (.ok (.bool q),σ):=fun q=>Zk (Zm rfl rfl) Zf (Zne q σ)
 have s0:∀q,exec ⟨pg,Zh pg (e+5)⟩ Zqz [some (.obj w),some (ddV ⟨q,x,ok⟩),none,none,none,none,none,none,none,none,none] σ=some (.next,[some (.obj w),some (ddV ⟨q,x,ok⟩),some x.v,none,none,none,none,none,none,none,none],σ):=fun q=>Zx (Zm rfl rfl) rfl
 have hN:∀q σ' ,exec ⟨pg,Zh pg (e+5)⟩ Zq0 [some (.obj w),some (ddV ⟨q,x,true⟩),some x.v,none,none,none,none,none,none,none,none] σ'=some (.ret (.bool true),[some (.obj w),some (ddV ⟨q,x,true⟩),some x.v,none,none,none,none,none,none,none,none],σ'):=fun q σ'=>Z1 (Zk (Zm rfl rfl) Zf (Zpv q true σ'))
 have hX:∀q,execs ⟨pg,Zh pg (e+5)⟩ (Ss.cons (St.ret (Ex.cmp (Ex.idx (Ex.var 1) (Ex.lit (V.int 2))) (Ch.one Cop.ne (Ex.lit (V.str { cps:=#[100,111,110,101] }))))) Ss.nil) [some (.obj w),some (ddV ⟨q,x,false⟩),some x.v,none,none,none,none,none,none,none,none] σ=some (.ret (.bool true),[some (.obj w),some (ddV ⟨q,x,false⟩),some x.v,none,none,none,none,none,none,none,none],σ):=fun q=>Zp (Z1 (Zk (Zm rfl rfl) Zf (Zho q false σ)))
 have keep:∀t' m',(∀(k:Nat) o,k≠n→σ[k]?=some o→(Yi σ n (.ns [(0,Tr.v t'),(1,.int m')]))[k]?=some o):=fun t' m' k o hn h=>Zpr h hn
 cases p with
 | true=>
  have hp:=Ztd P.toP2 e x ho hw hd
  rcases Tr.ins_ok x hs with ⟨i1,i2⟩ | ⟨t',i1,i2,i3,i4⟩
  ·have hok':ok=false:=by simpa[i2] using hok
   subst hok'
   rw[i1] at hp
   refine ⟨σ,t,m,?_,hw,rfl,fun n o u_ h=>h,hs,fun y=>Iff.rfl,by exact ln1 [] (.le .v0 (.a .v0 .k1)) (.d 11) rfl,id,id⟩
   exact Wo h45 rfl (Zbt (Zc (s0 true) (Zp (Zng (Jh (Z7 (c0 true) (Jh (Zjp (Jt (Zb rfl) ((hw.mt 1).trans P.m1) (Za (Zm rfl rfl) (Za (Zm rfl rfl) (Za (Zm rfl rfl) Ze))) hp))))) rfl (hX true)))))
  ·have hok':ok=true:=by simpa[i2] using hok
   subst hok'
   rw[i1] at hp
   refine ⟨Yi σ n (.ns [(0,t'.v),(1,.int (m+1))]),t',m+1,?_,hw.set t' (m+1),Zjw _ _ _,keep t' (m+1),i3,fun y=>?_,by rw[Tr.ins_sz x i1];exact Nat.le_refl _,fun h=>(Tr.ins_avl x h i1).1,fun h=>by rw[Tr.ins_sz x i1,h];push_cast;rfl⟩
   ·exact Wo h45 rfl (Zbt (Zc (s0 true) (Zc (Znf (Zv (Z7 (c0 true) (Zv (Y7 (Jt (Zb rfl) ((hw.mt 1).trans P.m1) (Za (Zm rfl rfl) (Za (Zm rfl rfl) (Za (Zm rfl rfl) Ze))) hp)))))) (Zp (hN true _)))))
   ·rw[i4 y];show y=x∨y∈t.tl↔y∈t.tl++[x]
    rw[List.mem_append,List.mem_singleton];exact Or.comm
 | false=>
  have hp:=Zpt P.toP2 e x ho hw hd hsz
  rcases Tr.del_ok x hs with ⟨i1,i2⟩ | ⟨t',i1,i2,i3,i4⟩
  ·have hok':ok=false:=by simpa[i2] using hok
   subst hok'
   rw[i1] at hp
   refine ⟨σ,t,m,?_,hw,rfl,fun n o u_ h=>h,hs,fun y=>Iff.rfl,by exact ln1 [] (.le .v0 (.a .v0 .k1)) (.d 11) rfl,id,id⟩
   exact Wo h45 rfl (Zbt (Zc (s0 false) (Zp (Zng (Jh (Zq (c0 false) (Jh (Zjp (Jt (Zb rfl) ((hw.mt 2).trans P.m2) (Za (Zm rfl rfl) (Za (Zm rfl rfl) (Za (Zm rfl rfl) Ze))) hp))))) rfl (hX false)))))
  ·have hok':ok=true:=by simpa[i2] using hok
   subst hok'
   rw[i1] at hp
   refine ⟨Yi σ n (.ns [(0,t'.v),(1,.int (m-1))]),t',m-1,?_,hw.set t' (m-1),Zjw _ _ _,keep t' (m-1),i3,fun y=>?_,by have:=Tr.del_sz x i1;lia,fun h=>(Tr.del_avl x h i1).1,fun h=>by have:=Tr.del_sz x i1;lia⟩
   ·exact Wo h45 rfl (Zbt (Zc (s0 false) (Zc (Znf (Zv (Zq (c0 false) (Zv (Y7 (Jt (Zb rfl) ((hw.mt 2).trans P.m2) (Za (Zm rfl rfl) (Za (Zm rfl rfl) (Za (Zm rfl rfl) Ze))) hp)))))) (Zp (hN false _)))))
   ·rw[i4 y];show y≠x∧y∈t.tl↔y∈t.tl.filter fun z=>!decide (z=x)
    rw[List.mem_filter];simp[and_comm]
theorem T3.le_iff {x y:T3}:T3.le x y=true↔(x.a<y.a∨(x.a=y.a∧(x.b<y.b∨(x.b=y.b∧x.c≤y.c)))):=by simp[T3.le]
theorem T3.le_ne {x y:T3}(h:T3.le x y=true)(hn:x≠y):T3.lt x y=true:=by
 rw[T3.lt_iff];rw[T3.le_iff] at h
 rcases h with h | ⟨h1,h | ⟨h2,h3⟩⟩
 ·exact .inl h
 ·exact .inr ⟨h1,.inl h⟩
 ·exact .inr ⟨h1,.inr ⟨h2,Int.lt_iff_le_and_ne.mpr ⟨h3,fun e=>hn (T3.eq_iff.mpr ⟨h1,h2,e⟩)⟩⟩⟩
theorem Zk7 {l:List T3}(hn:l.Nodup):Srt3 (l.mergeSort T3.le):=by
 have h1:(l.mergeSort T3.le).Pairwise (fun x y=>T3.le x y=true):=List.pairwise_mergeSort (le:=T3.le) (fun u_ v_ w_=>Z4) (fun a b=>by
  show (T3.le a b||T3.le b a)=true
  cases h:T3.le a b with
  | true=>rfl
  | false=>exact Yv h) l
 have h2:(l.mergeSort T3.le).Nodup:=(List.mergeSort_perm l T3.le).nodup_iff.mpr hn
 exact (h1.and h2).imp fun h=>T3.le_ne h.1 h.2
theorem Srt3.nodup {l:List T3}(h:Srt3 l):l.Nodup:=List.Pairwise.imp (fun h e=>by subst e;exact T3.lt_irr _ h) h
theorem Ztg {S:List T3}{d:Dd}(hs:Srt3 S)(hn:d.p=true→d.ok=true→d.x ∉ S):Srt3 (beh S d)∧∀y,y∈beh S d↔y∈nxt S d:=by
 refine byC fun hX=>?_;obtain ⟨p,x,ok⟩:=d;refine hX ?_;clear hX
 cases ok with
 | false=>exact ⟨hs,fun y=>Iff.rfl⟩
 | true=>
  cases p with
  | true=>
   refine ⟨Zk7 ?_,fun y=>(List.mergeSort_perm _ _).mem_iff⟩
   rw[List.nodup_append]
   exact ⟨hs.nodup,by simp,fun a ha b hb e=>by simp at hb;subst hb;subst e;exact hn rfl rfl ha⟩
  | false=>exact ⟨List.Pairwise.filter _ hs,fun y=>Iff.rfl⟩
theorem Zpw {d n k m:Nat}{ps:List Nat}{B:Ss}{as:List V}(hF:pg.fn n=some ⟨ps,k,B,.fresh⟩)(hs:Ut ⟨ps,k,B,.fresh⟩ as=some ℓ)(h:execs ⟨pg,Zh pg d⟩ B ℓ σ=some (.ret (.obj m),ℓ',σ))(hm:m<σ.length):Zh pg (d+1) n as σ=some (.ok (.obj m),σ):=by
 rw[Ul hF hs];show gc .fresh σ (Xs (execs ⟨pg,Zh pg d⟩ B ℓ σ))=_;rw[h];exact (if_pos List.take_length).trans (if_pos hm)
theorem Zth (P:PWd pg)(e:Nat){d:Dd}{r:Nat}{ts:List T3}(hs:Srt3 ts)(hr:σ[r]?=some (.list (ts.map T3.v)))(hl:ts.length≤1000) :
  ∃r' τ,Zh pg (e+1) 39 [.obj r,ddV d] σ=some (.ok (.obj r'),σ++τ)∧(σ++τ)[r']?=some (.list ((beh ts d).map T3.v))∧r'≠0∨r=0:=by
 refine byC fun hX=>?_;obtain ⟨p,x,ok⟩:=d;refine hX ?_;clear hX
 by_cases hr0:r=0
 ·exact ⟨0,[],.inr hr0⟩
 have hrl:=(List.getElem?_eq_some_iff.mp hr).1
 have c0:∀q,Zg ⟨pg,Zh pg e⟩ (Ex.cmp (Ex.idx (Ex.var 1) (Ex.lit (V.int 2))) (Ch.one Cop.ne (Ex.lit (V.str { cps:=#[100,111,110,101] })))) [some (.obj r),some (ddV ⟨p,x,q⟩),none,none,none,none,none,none,none,none] σ=some (.ok (.bool (!q)),σ):=fun q=>Zk (Zm rfl rfl) Zf (Zho p q σ)
 have c1:∀q,Zg ⟨pg,Zh pg e⟩ (Ex.cmp (Ex.idx (Ex.var 1) (Ex.lit (V.int 0))) (Ch.one Cop.eq (Ex.lit (V.str { cps:=#[112,117,116] })))) [some (.obj r),some (ddV ⟨p,x,q⟩),none,none,none,none,none,none,none,none] σ=some (.ok (.bool p),σ):=fun q=>Zk (Zm rfl rfl) Zf (Zne p σ)
 have hσ0:0<σ.length:=by exact ln2 [(.lt .v1 .v0)] (.lt .k0 .v0) (.d 111) rfl hrl
 cases ok with
 | false=>
  refine ⟨r,[],.inl ⟨?_,by rw[List.append_nil];exact hr,hr0⟩⟩
  rw[List.append_nil]
  exact Zpw P.f39 rfl (Zp (Z7 (c0 false) (Zp (Z1 (Zb rfl))))) hrl
 | true=>
  refine ⟨σ.length,[.list ((beh ts ⟨p,x,true⟩).map T3.v)],.inl ⟨?_,gl σ _,by exact ln1 [(.lt .k0 .v0)] (.no (.eq .v0 .k0)) (.d 1101) rfl hσ0⟩⟩
  cases p with
  | true=>
   generalize e1:σ++[O.list [x.v]]=a1
   generalize e2:a1++[O.list ((ts++[x]).map T3.v)]=a2
   have q:Zg ⟨pg,Zh pg e⟩ (Ex.lst (Es.cons (Ex.idx (Ex.var 1) (Ex.lit (V.int 1))) Es.nil)) [some (.obj r),some (ddV ⟨true,x,true⟩),none,none,none,none,none,none,none,none] σ=some (.ok (.obj σ.length),a1):=e1▸Uj (Za (Zm rfl rfl) Ze) rfl
   have cc:=Zdm (σ:=a1) (i:=r) (j:=σ.length) (e1▸Zj hr) (e1▸gl σ _) (by rw[List.length_append,List.length_map];exact Nat.le_trans (Nat.add_le_add_right hl 1) (by decide))
   rw[Zte,e2] at cc
   have so:Wa .sorted [.obj a1.length] a2=some (.obj a2.length,a2++[.list (((ts++[x]).mergeSort T3.le).map T3.v)]):=by
    show ((Yg a2 (.obj a1.length)).bind Q7).bind (Yu a2)=_
    rw[Zs (e2▸gl a1 _)]
    show (Q7 ((ts++[x]).map T3.v)).bind (Yu a2)=_
    rw[Zm6]
    exact Jv (by rw[List.length_map,List.length_mergeSort,List.length_append];exact Nat.le_trans (Nat.add_le_add_right hl 1) (by decide)) a2
   obtain ⟨τ,hτ⟩ : ∃τ,a2++[O.list (((ts++[x]).mergeSort T3.le).map T3.v)]=σ++τ:=by
    rw[← e2,← e1];simp only[List.append_assoc];exact ⟨_,rfl⟩
   have g:=gl a2 (O.list (((ts++[x]).mergeSort T3.le).map T3.v))
   rw[hτ] at so g
   exact Jy P.f39 rfl (Zc (Zq (c0 true) Zn) (Zp (Z7 (c1 true) (Zp (Z1 (Z6 (Za (Zi (Zb rfl) q cc) Ze) so)))))) (by rw[← e2,← e1];simp) (Jd _ _) g
  | false=>
   have c:=Yx (C:=⟨pg,Zh pg e⟩) (elt:=.var 3) (tg:=3) (it:=.ex (.var 0)) (ifs:=Es.cons (Ex.cmp (Ex.var 3) (Ch.one Cop.ne (Ex.idx (Ex.var 1) (Ex.lit (V.int 1))))) Es.nil) (ℓ:=[some (.obj r),some (ddV ⟨false,x,true⟩),none,none,none,none,none,none,none,none]) T3.v (fun y=>if (!decide (y=x))=true then some y.v else none) (Jc (Zb rfl) hr) hr (Nat.le_of_ble_eq_true rfl) (Nat.le_trans hl (by decide)) fun y u_=>Zcb (X3 (Zk (Zb rfl) (Zm rfl rfl) (Zu8 y x σ))) (Zb rfl)
   rw[Yp] at c
   exact Jy P.f39 rfl (Zc (Zq (c0 true) Zn) (Zc (Zq (c1 true) Zn) (Zp (Z1 c)))) (Nat.le_refl _) (Jd _ _) (gl σ _)
end
theorem Zbu {a b:Int}(h1:0≤a)(h2:a<1000):mulOK a b:=.inl (Nat.lt_trans (show a.natAbs<1000 by lia) (by decide))
theorem Zij {a b:Int}(h1:0≤b)(h2:b<1000):mulOK a b:=.inr (.inl (Nat.lt_trans (show b.natAbs<1000 by lia) (by decide)))
theorem p60:(10:Int)^60=1000000000000000000000000000000000000000000000000000000000000:=by decide
theorem Zen {x:T3}(h1 : -1000≤x.a)(h2:x.a≤x.b)(h3:x.b≤1000)(h4 : -1000≤x.c)(h5:x.c≤1000):okT x:=by
 unfold okT;rw[p60];exact lz3 [(.zle (.g (.k 1000)) .v0),(.zle .v0 .v1),(.zle .v1 (.k 1000)),(.zle (.g (.k 1000)) .v2),(.zle .v2 (.k 1000))] (.an (.zlt (.g (.k 1000000000000000000000000000000000000000000000000000000000000)) .v0) (.an (.zle .v0 .v1) (.an (.zlt .v1 (.k 1000000000000000000000000000000000000000000000000000000000000)) (.an (.zlt (.g (.k 1000000000000000000000000000000000000000000000000000000000000)) .v2) (.zlt .v2 (.k 1000000000000000000000000000000000000000000000000000000000000)))))) (.s (.d 111) (.s (.d 1101) (.s (.d 11001) (.s (.d 110001) (.d 1100001))))) rfl h1 h2 h3 h4 h5
theorem Znh (s:Int) : -10^60<Zbc s∧Zbc s<10^60:=by
 unfold Zbc
 split
 ·have:=Z8 (s.fdiv 4*16807^14) (m:=2*10^60-1) (by decide)
  rw[p60] at *;lia
 ·have:=Z8 (s.fdiv 31232) (m:=7) (by decide)
  rw[p60];lia
theorem Zhp (s:Int):okT (Zej s):=by
 have h1:=Zhi s
 have h2:=Zk4 s
 have h3:=Znh s
 refine ⟨?_,h2,?_,h3.1,h3.2⟩
 ·show _<Ur s;rw[p60] at *;exact lz1 [(.an (.zle (.g (.s (.k 1000000000000000000000000000000000000000000000000000000000000) .k1)) .v0) (.zle .v0 (.s (.k 1000000000000000000000000000000000000000000000000000000000000) .k1)))] (.zlt (.g (.k 1000000000000000000000000000000000000000000000000000000000000)) .v0) (.d 111) rfl h1
 ·show (if 10^60-1<Ur s+Xi s then 10^60-1 else Ur s+Xi s)<10^60
  split <;> (rw[p60] at *;lia)
noncomputable def Zdx (c:Int):List T3:=if (c.fdiv 16).fmod 16=5 then (List.range (64+c.fmod 21).toNat).map fun k:Nat=>⟨3*(k:Int)-90,3*(k:Int)-90+((k:Int)*k).fmod (1+(c.fdiv 256).fmod 9),k⟩ else []
theorem Zpx (c:Int):(Zdx c).length≤100∧(Zdx c).Nodup∧∀x∈Zdx c,okT x:=by
 have h1:=Z8 c (m:=21) (by decide)
 have h2:=Z8 (c.fdiv 256) (m:=9) (by decide)
 unfold Zdx
 split
 ·refine ⟨by rw[List.length_map,List.length_range];exact lin [(.an (.zle .k0 .v0) (.zlt .v0 (.k 21))),(.nt .v0 (.a (.k 64) .v0))] (.le .v0 (.k 100)) (.s (.d 110101) (.d 10101)) rfl [_] [_] h1 (U2 _),?_,fun x hx=>?_⟩
  ·exact List.pairwise_map.mpr (List.nodup_range.imp fun hab e=>hab (Int.ofNat_inj.mp (congrArg T3.c e)))
  ·refine rEA (fun k hk hO2=>?_) (List.mem_map.mp hx);refine eqE hO2 ?_
   have hk:=List.mem_range.mp hk
   have h3:=Z8 ((k:Int)*k) (m:=1+(c.fdiv 256).fmod 9) (by exact lz1 [(.an (.zle .k0 .v0) (.zlt .v0 (.k 9)))] (.zlt .k0 (.a .k1 .v0)) (.d 111) rfl h2)
   exact Zen (by show _≤3*(k:Int)-90;exact ln1 [] (.zle (.g (.k 1000)) (.s (.m 3 (.n .v0)) (.k 90))) (.d 11) rfl) (by show 3*(k:Int)-90≤3*(k:Int)-90+_;exact lin [(.an (.zle .k0 .v0) (.zlt .v0 (.a .k1 .v1)))] (.zle (.s (.m 3 (.n .v0)) (.k 90)) (.a (.s (.m 3 (.n .v0)) (.k 90)) .v0)) (.d 111) rfl [_] [_,_] h3) (by show 3*(k:Int)-90+_≤_;exact lin [(.an (.zle .k0 .v1) (.zlt .v1 (.k 21))),(.an (.zle .k0 .v2) (.zlt .v2 (.k 9))),(.lt .v0 .v1),(.an (.zle .k0 .v0) (.zlt .v0 (.a .k1 .v2))),(.nt .v1 (.a (.k 64) .v1))] (.zle (.a (.s (.m 3 (.n .v0)) (.k 90)) .v0) (.k 1000)) (.s (.d 11030130103) (.d 1010000001)) rfl [_,_] [_,_,_] h1 h2 hk h3 (U2 _)) (by show _≤(k:Int);exact ln1 [] (.zle (.g (.k 1000)) (.n .v0)) (.d 11) rfl) (by show (k:Int)≤_;exact lin [(.an (.zle .k0 .v0) (.zlt .v0 (.k 21))),(.lt .v0 .v1),(.nt .v1 (.a (.k 64) .v0))] (.zle (.n .v0) (.k 1000)) (.s (.d 1101101) (.d 101001)) rfl [_,_] [_] h1 hk (U2 _))
 ·exact ⟨Nat.zero_le _,List.nodup_nil,fun x hx=>by cases hx⟩
noncomputable def Zik (s:Int):List T3:=(List.range ((s.fdiv 1476).fmod 16+4).toNat).map fun k:Nat=>⟨s.fmod 41-20+(s.fdiv 41).fmod 4*(k:Int),s.fmod 41-20+(s.fdiv 41).fmod 4*(k:Int)+(k:Int).fmod (1+(s.fdiv 164).fmod 3),(k:Int).fdiv (1+(s.fdiv 492).fmod 3)⟩
theorem Zpy (k:Nat){m:Int}(h:0<m):0≤(k:Int).fdiv m∧(k:Int).fdiv m≤k:=by
 have h1:=Int.fdiv_nonneg (a:=k) (b:=m) (by exact ln1 [] (.zle .k0 (.n .v0)) (.d 11) rfl) (by exact lz1 [(.zlt .k0 .v0)] (.zle .k0 .v0) (.d 111) rfl h)
 refine ⟨h1,?_⟩
 rw[Int.fdiv_eq_ediv_of_nonneg _ (by exact lz1 [(.zlt .k0 .v0)] (.zle .k0 .v0) (.d 111) rfl h)]
 exact Int.ediv_le_self _ (by exact ln1 [] (.zle .k0 (.n .v0)) (.d 11) rfl)
theorem Zj0 (s:Int):(Zik s).length≤20∧∀x∈Zik s,okT x:=by
 have h1:=Z8 (s.fdiv 1476) (m:=16) (by decide)
 have h2:=Z8 s (m:=41) (by decide)
 have h3:=Z8 (s.fdiv 41) (m:=4) (by decide)
 have h4:=Z8 (s.fdiv 164) (m:=3) (by decide)
 have h5:=Z8 (s.fdiv 492) (m:=3) (by decide)
 refine ⟨by unfold Zik;rw[List.length_map,List.length_range];exact lin [(.an (.zle .k0 .v0) (.zlt .v0 (.k 16))),(.nt .v0 (.a .v0 (.k 4)))] (.le .v0 (.k 20)) (.s (.d 110101) (.d 10101)) rfl [_] [_] h1 (U2 _),fun x hx=>?_⟩
 refine rEA (fun k hk hO2=>?_) (List.mem_map.mp hx);refine eqE hO2 ?_
 have hk:=List.mem_range.mp hk
 have h6:=Z8 (k:Int) (m:=1+(s.fdiv 164).fmod 3) (by exact lz1 [(.an (.zle .k0 .v0) (.zlt .v0 (.k 3)))] (.zlt .k0 (.a .k1 .v0)) (.d 111) rfl h4)
 have h7:=Zpy k (m:=1+(s.fdiv 492).fmod 3) (by exact lz1 [(.an (.zle .k0 .v0) (.zlt .v0 (.k 3)))] (.zlt .k0 (.a .k1 .v0)) (.d 111) rfl h5)
 have h8:0≤(s.fdiv 41).fmod 4*(k:Int):=Int.mul_nonneg h3.1 (by exact ln1 [] (.zle .k0 (.n .v0)) (.d 11) rfl)
 have h9:(s.fdiv 41).fmod 4*(k:Int)≤3*20:=Int.mul_le_mul (by exact lz1 [(.an (.zle .k0 .v0) (.zlt .v0 (.k 4)))] (.zle .v0 (.k 3)) (.d 1101) rfl h3) (by exact lin [(.an (.zle .k0 .v0) (.zlt .v0 (.k 16))),(.lt .v0 .v1),(.nt .v1 (.a .v0 (.k 4)))] (.zle (.n .v0) (.k 20)) (.s (.d 1101101) (.d 101001)) rfl [_,_] [_] h1 hk (U2 _)) (by exact ln1 [] (.zle .k0 (.n .v0)) (.d 11) rfl) (by exact lin [] (.zle .k0 (.k 3)) (.d 11) rfl [] [])
 exact Zen (by show _≤s.fmod 41-20+(s.fdiv 41).fmod 4*(k:Int);exact lz2 [(.an (.zle .k0 .v0) (.zlt .v0 (.k 41))),(.zle .k0 .v1)] (.zle (.g (.k 1000)) (.a (.s .v0 (.k 20)) .v1)) (.d 11101) rfl h2 h8) (by show s.fmod 41-20+(s.fdiv 41).fmod 4*(k:Int)≤s.fmod 41-20+(s.fdiv 41).fmod 4*(k:Int)+_;exact lz4 [(.an (.zle .k0 .v2) (.zlt .v2 (.a .k1 .v3)))] (.zle (.a (.s .v0 (.k 20)) .v1) (.a (.a (.s .v0 (.k 20)) .v1) .v2)) (.d 111) rfl h6) (by show s.fmod 41-20+(s.fdiv 41).fmod 4*(k:Int)+_≤_;exact lz4 [(.an (.zle .k0 .v0) (.zlt .v0 (.k 41))),(.an (.zle .k0 .v3) (.zlt .v3 (.k 3))),(.an (.zle .k0 .v2) (.zlt .v2 (.a .k1 .v3))),(.zle .v1 (.m 3 (.k 20)))] (.zle (.a (.a (.s .v0 (.k 20)) .v1) .v2) (.k 1000)) (.d 110101011) rfl h2 h4 h6 h9) (by show _≤(k:Int).fdiv _;exact lin [(.an (.zle .k0 .v0) (.zle .v0 (.n .v0)))] (.zle (.g (.k 1000)) .v0) (.d 111) rfl [_] [_] h7) (by show (k:Int).fdiv _≤_;exact lin [(.an (.zle .k0 .v1) (.zlt .v1 (.k 16))),(.lt .v0 .v1),(.an (.zle .k0 .v0) (.zle .v0 (.n .v0))),(.nt .v1 (.a .v1 (.k 4)))] (.zle .v0 (.k 1000)) (.s (.d 110110101) (.d 10100001)) rfl [_,_] [_,_] h1 hk h7 (U2 _))
section
variable {pg:Pg}
theorem Zni {C:Cl}{a:Ex}{lo hi st:Oe}{σ2 σ3 σ4 σ5:H}{x l u s v:V}(ha:Zg C a ℓ σ=some (.ok x,σ1))(hl:Xr C lo ℓ σ1=some (.ok l,σ2))(hu:Xr C hi ℓ σ2=some (.ok u,σ3))(hs:Xr C st ℓ σ3=some (.ok s,σ4))(h:Wg σ4 x l u s=some (v,σ5)):Zg C (.slc a lo hi st) ℓ σ=some (.ok v,σ5) :=
 (Zy ha).trans ((Zy hl).trans ((Zy hu).trans ((Zy hs).trans (by show okH (Wg σ4 x l u s)=_;rw[h];rfl))))
theorem Zti (h37:pg.fn 37=some ⟨[0],10,B37,.fresh⟩)(d:Nat)(c:Int)(σ:H):Zh pg (d+1) 37 [.int c] σ=some (.ok (.obj σ.length),σ++[.list ((Zdx c).map T3.v)]):=by
 have hc:Zg ⟨pg,Zh pg d⟩ (Ex.bin Bop.mod (Ex.bin Bop.fdiv (Ex.var 0) (Ex.lit (V.int 16))) (Ex.lit (V.int 16))) [some (.int c),none,none,none,none,none,none,none,none,none] σ=some (.ok (.int ((c.fdiv 16).fmod 16)),σ):=Zi (Zi (Zb rfl) Zf (Zt (fd 16) σ)) Zf (Zr (by decide) σ)
 by_cases h:(c.fdiv 16).fmod 16=5
 ·have h1:=Z8 c (m:=21) (by decide)
  have h2:=Z8 (c.fdiv 256) (m:=9) (by decide)
  have hb:Zdx c=(List.range (64+c.fmod 21).toNat).map fun k:Nat=>⟨3*(k:Int)-90,3*(k:Int)-90+((k:Int)*k).fmod (1+(c.fdiv 256).fmod 9),k⟩:=if_pos h
  have hn:((64+c.fmod 21).toNat:Int)=64+c.fmod 21:=Int.toNat_of_nonneg (by exact lz1 [(.an (.zle .k0 .v0) (.zlt .v0 (.k 21)))] (.zle .k0 (.a (.k 64) .v0)) (.d 111) rfl h1)
  have cm := Yx (C := ⟨pg, Zh pg d⟩) (elt := Ex.tup (Es.cons (Ex.bin Bop.sub (Ex.bin Bop.mul (Ex.lit (V.int 3)) (Ex.var 3)) (Ex.lit (V.int 90))) (Es.cons (Ex.bin Bop.add (Ex.bin Bop.sub (Ex.bin Bop.mul (Ex.lit (V.int 3)) (Ex.var 3)) (Ex.lit (V.int 90))) (Ex.bin Bop.mod (Ex.bin Bop.mul (Ex.var 3) (Ex.var 3)) (Ex.var 1))) (Es.cons (Ex.var 3) Es.nil)))) (tg := 3) (it := It.rng1 (Ex.bin Bop.add (Ex.lit (V.int 64)) (Ex.bin Bop.mod (Ex.var 0) (Ex.lit (V.int 21))))) (ifs := .nil) (ℓ := [some (.int c), some (.int (1 + (c.fdiv 256).fmod 9)), none, none, none, none, none, none, none, none]) (σ := σ) (σ1 := σ) (keep := fun u_ => True) (fun k : Nat => V.int k) (fun k : Nat => some (T3.v ⟨3 * k - 90, 3 * k - 90 + ((k : Int) * k).fmod (1 + (c.fdiv 256).fmod 9), k⟩)) (Zbs (n := (64 + c.fmod 21).toNat) (by rw [hn]; exact Zi Zf (Zi (Zb rfl) Zf (Zr (by decide) σ)) (Z2 _ _ _)) (Nat.le_trans (show _ ≤ 101 by exact lin [(.an (.zle .k0 .v0) (.zlt .v0 (.k 21))),(.zeq (.n .v0) (.a (.k 64) .v0))] (.le .v0 (.k 101)) (.l [1, 0, 1, 1]) rfl [_] [_] h1 hn) (by decide))) trivial (Nat.le_of_ble_eq_true rfl) (by rw [List.length_range]; exact Nat.le_trans (show _ ≤ 101 by exact lin [(.an (.zle .k0 .v0) (.zlt .v0 (.k 21))),(.zeq (.n .v0) (.a (.k 64) .v0))] (.le .v0 (.k 101)) (.l [1, 0, 1, 1]) rfl [_] [_] h1 hn) (by decide)) fun k hk => by
    have hk:=List.mem_range.mp hk
    have m3:=Zi (C:=⟨pg,Zh pg d⟩) (ℓ:=[some (.int c),some (.int (1+(c.fdiv 256).fmod 9)),none,some (.int (k:Nat)),none,none,none,none,none,none]) (op:=.sub) (Zi (op:=.mul) (Zf (v:=.int 3)) (Zb (i:=3) rfl) (Je (Zbu (by decide) (by decide)) σ)) (Zf (v:=.int 90)) (Ye _ _ σ)
    exact Zcb (p:=true) Zdg (Y4 (Za m3 (Za (Zi m3 (Zi (Zi (Zb rfl) (Zb rfl) (Je (Zbu (by exact ln1 [] (.zle .k0 (.n .v0)) (.d 11) rfl) (by exact lin [(.an (.zle .k0 .v0) (.zlt .v0 (.k 21))),(.zeq (.n .v1) (.a (.k 64) .v0)),(.lt .v0 .v1)] (.zlt (.n .v0) (.k 1000)) (.d 1101101) rfl [_,_] [_] h1 hn hk)) σ)) (Zb rfl) (Zr (by exact lz1 [(.an (.zle .k0 .v0) (.zlt .v0 (.k 9)))] (.no (.zeq (.a .k1 .v0) .k0)) (.d 1101) rfl h2) σ)) (Z2 _ _ _)) (Za (Zb rfl) Ze))) rfl)
  have e:((List.range (64+c.fmod 21).toNat).filterMap fun k:Nat=>some (T3.v ⟨3*k-90,3*k-90+((k:Int)*k).fmod (1+(c.fdiv 256).fmod 9),k⟩))=(Zdx c).map T3.v:=by
   rw[hb,List.map_map,List.filterMap_eq_map'];rfl
  rw[e] at cm
  exact Jy h37 rfl (Zc (Zq (Zk hc Zf (neF h)) Zn) (Zc (Zx (Zi Zf (Zi (Zi (Zb rfl) Zf (Zt (fd 256) σ)) Zf (Zr (by decide) σ)) (Z2 _ _ _)) rfl) (Zp (Z1 cm)))) (Nat.le_refl _) (Jd _ _) (gl σ _)
 ·have hb:Zdx c=[]:=if_neg h
  rw[hb]
  exact Jy h37 rfl (Zp (Z7 (Zk hc Zf (neT h)) (Zp (Z1 (Uj Ze rfl))))) (Nat.le_refl _) rfl (gl σ _)
theorem Ztj (P:PWd pg)(d:Nat)(s:Int)(σ:H):Zh pg (d+1) 34 [.int s] σ=some (.ok (.obj σ.length),σ++[.list ((Zik s).map T3.v)]):=by
 have h1:=Z8 (s.fdiv 1476) (m:=16) (by decide)
 have h4:=Z8 (s.fdiv 164) (m:=3) (by decide)
 have h5:=Z8 (s.fdiv 492) (m:=3) (by decide)
 have hn:(((s.fdiv 1476).fmod 16+4).toNat:Int)=(s.fdiv 1476).fmod 16+4:=Int.toNat_of_nonneg (by exact lz1 [(.an (.zle .k0 .v0) (.zlt .v0 (.k 16)))] (.zle .k0 (.a .v0 (.k 4))) (.d 111) rfl h1)
 have cm:=Yx (C:=⟨pg,Zh pg d⟩) (elt:=Ex.tup (Es.cons (Ex.bin Bop.add (Ex.var 1) (Ex.bin Bop.mul (Ex.var 2) (Ex.var 6))) (Es.cons (Ex.bin Bop.add (Ex.bin Bop.add (Ex.var 1) (Ex.bin Bop.mul (Ex.var 2) (Ex.var 6))) (Ex.bin Bop.mod (Ex.var 6) (Ex.var 3))) (Es.cons (Ex.bin Bop.fdiv (Ex.var 6) (Ex.var 4)) Es.nil)))) (tg:=6) (it:=It.rng1 (Ex.bin Bop.add (Ex.bin Bop.mod (Ex.bin Bop.fdiv (Ex.var 0) (Ex.lit (V.int 1476))) (Ex.lit (V.int 16))) (Ex.lit (V.int 4)))) (ifs:=.nil)
  (ℓ:=[some (.int s),some (.int (s.fmod 41-20)),some (.int ((s.fdiv 41).fmod 4)),some (.int (1+(s.fdiv 164).fmod 3)),some (.int (1+(s.fdiv 492).fmod 3)),none,none,none,none,none,none,none,none]) (σ:=σ) (σ1:=σ) (keep:=fun u_=>True) (fun k:Nat=>V.int k) (fun k:Nat=>some (T3.v ⟨s.fmod 41-20+(s.fdiv 41).fmod 4*k,s.fmod 41-20+(s.fdiv 41).fmod 4*k+(k:Int).fmod (1+(s.fdiv 164).fmod 3),(k:Int).fdiv (1+(s.fdiv 492).fmod 3)⟩)) (Zbs (n:=((s.fdiv 1476).fmod 16+4).toNat) (by rw[hn];exact Zi (Zi (Zi (Zb rfl) Zf (Zt (fd 1476) σ)) Zf (Zr (by decide) σ)) Zf (Z2 _ _ _)) (Nat.le_trans (show _≤20 by exact lin [(.an (.zle .k0 .v0) (.zlt .v0 (.k 16))),(.zeq (.n .v0) (.a .v0 (.k 4)))] (.le .v0 (.k 20)) (.d 11011) rfl [_] [_] h1 hn) (by decide))) trivial (Nat.le_of_ble_eq_true rfl) (by rw[List.length_range];exact Nat.le_trans (show _≤20 by exact lin [(.an (.zle .k0 .v0) (.zlt .v0 (.k 16))),(.zeq (.n .v0) (.a .v0 (.k 4)))] (.le .v0 (.k 20)) (.d 11011) rfl [_] [_] h1 hn) (by decide)) fun k hk=>by
   have hk:=List.mem_range.mp hk
   have m3:=Zi (C:=⟨pg,Zh pg d⟩) (ℓ:=[some (.int s),some (.int (s.fmod 41-20)),some (.int ((s.fdiv 41).fmod 4)),some (.int (1+(s.fdiv 164).fmod 3)),some (.int (1+(s.fdiv 492).fmod 3)),none,some (.int (k:Nat)),none,none,none,none,none,none]) (op:=.add) (Zb (i:=1) rfl) (Zi (op:=.mul) (Zb (i:=2) rfl) (Zb (i:=6) rfl) (Je (Zij (by exact ln1 [] (.zle .k0 (.n .v0)) (.d 11) rfl) (by exact lin [(.an (.zle .k0 .v0) (.zlt .v0 (.k 16))),(.zeq (.n .v1) (.a .v0 (.k 4))),(.lt .v0 .v1)] (.zlt (.n .v0) (.k 1000)) (.d 1101101) rfl [_,_] [_] h1 hn hk)) σ)) (Z2 _ _ σ)
   exact Zcb (p:=true) Zdg (Y4 (Za m3 (Za (Zi m3 (Zi (Zb rfl) (Zb rfl) (Zr (by exact lz1 [(.an (.zle .k0 .v0) (.zlt .v0 (.k 3)))] (.no (.zeq (.a .k1 .v0) .k0)) (.d 1101) rfl h4) σ)) (Z2 _ _ _)) (Za (Zi (Zb rfl) (Zb rfl) (Zt ⟨by exact lz1 [(.an (.zle .k0 .v0) (.zlt .v0 (.k 3)))] (.no (.zeq (.a .k1 .v0) .k0)) (.d 1101) rfl h5,Nat.lt_trans (show _<10 by lia) (by decide)⟩ σ)) Ze))) rfl)
 have e:((List.range ((s.fdiv 1476).fmod 16+4).toNat).filterMap fun k:Nat=>some (T3.v ⟨s.fmod 41-20+(s.fdiv 41).fmod 4*k,s.fmod 41-20+(s.fdiv 41).fmod 4*k+(k:Int).fmod (1+(s.fdiv 164).fmod 3),(k:Int).fdiv (1+(s.fdiv 492).fmod 3)⟩))=(Zik s).map T3.v:=by
  unfold Zik;rw[List.map_map,List.filterMap_eq_map'];rfl
 rw[e] at cm
 exact Jy P.f34 rfl (Zc (Zx (Zi (Zi (Zb rfl) Zf (Zr (by decide) σ)) Zf (Ye _ _ _)) rfl) (Zc (Zx (Zi (Zi (Zb rfl) Zf (Zt (fd 41) σ)) Zf (Zr (by decide) σ)) rfl) (Zc (Zx (Zi Zf (Zi (Zi (Zb rfl) Zf (Zt (fd 164) σ)) Zf (Zr (by decide) σ)) (Z2 _ _ _)) rfl) (Zc (Zx (Zi Zf (Zi (Zi (Zb rfl) Zf (Zt (fd 492) σ)) Zf (Zr (by decide) σ)) (Z2 _ _ _)) rfl) (Zp (Z1 cm)))))) (Nat.le_refl _) (Jd _ _) (gl σ _)
set_option tactic.hygienic true in
theorem Zpz (P:PWd pg)(d:Nat)(s:Int){r:Nat}{ts:List T3}(hr:σ[r]?=some (.list (ts.map T3.v)))(hne:0<ts.length)(ho:∀x∈ts,okT x):∃y,okT y∧Zh pg (d+1) 35 [.int s,.obj r] σ=some (.ok y.v,σ):=by
 refine rEA (fun x hx e=>?_) (Zbe hr hne (s.fdiv 3))
 refine Ziu (fun o1 o2 o3 o4 o5=>?_) (ho x hx)
 have s0:exec ⟨pg,Zh pg d⟩ Zqy [some (.int s),some (.obj r),none,none,none,none,none,none,none,none,none] σ=some (.next,[some (.int s),some (.obj r),some x.v,none,none,none,none,none,none,none,none],σ):=Zx (Y8 (Zb rfl) (Zi (Zi (Zb rfl) Zf (Zt (fd 3) σ)) (Z6 (Za (Zb rfl) Ze) (Wz hr)) (Zr (by exact ln1 [(.lt .k0 .v0)] (.no (.zeq (.n .v0) .k0)) (.d 1101) rfl hne) σ)) e) rfl
 by_cases h:0<x.c
 ·refine ⟨⟨x.a,x.b,x.c-1⟩,⟨o1,o2,o3,?_,?_⟩,?_⟩
  ·show _<x.c-1;rw[p60] at *;exact lz1 [(.zlt .k0 .v0)] (.zlt (.g (.k 1000000000000000000000000000000000000000000000000000000000000)) (.s .v0 .k1)) (.d 111) rfl h
  ·show x.c-1<_;rw[p60] at *;exact lz1 [(.zlt .v0 (.k 1000000000000000000000000000000000000000000000000000000000000))] (.zlt (.s .v0 .k1) (.k 1000000000000000000000000000000000000000000000000000000000000)) (.d 111) rfl o5
  ·exact Yz P.f35 rfl (Zc s0 (Zp (Z7 (Zk (Zm rfl rfl) Zf (gtT h)) (Zp (Z1 (Y4 (Za (Zm rfl rfl) (Za (Zm rfl rfl) (Za (Zi (Zm rfl rfl) Zf (Ye _ _ _)) Ze))) rfl)))))) rfl
 ·refine ⟨⟨x.a,x.b,x.c+1⟩,⟨o1,o2,o3,?_,?_⟩,?_⟩
  ·show _<x.c+1;rw[p60] at *;exact lz1 [(.zlt (.g (.k 1000000000000000000000000000000000000000000000000000000000000)) .v0)] (.zlt (.g (.k 1000000000000000000000000000000000000000000000000000000000000)) (.a .v0 .k1)) (.d 111) rfl o4
  ·show x.c+1<_;rw[p60] at *;exact lz1 [(.no (.zlt .k0 .v0))] (.zlt (.a .v0 .k1) (.k 1000000000000000000000000000000000000000000000000000000000000)) (.d 111) rfl h
  ·exact Yz P.f35 rfl (Zc s0 (Zc (Zq (Zk (Zm rfl rfl) Zf (gtF h)) Zn) (Zp (Z1 (Y4 (Za (Zm rfl rfl) (Za (Zm rfl rfl) (Za (Zi (Zm rfl rfl) Zf (Z2 _ _ _)) Ze))) rfl))))) rfl
theorem Zk8 (σ:H)(is:List Int):(is.map V.int).mapM (toD 6 σ)=some (is.map PyData.int):=Zdj 5 σ is
theorem Zhq (i:Int)(is:List Int)(σ:H):∃b,Z9 .mem (.int i) (.tup (is.map .int)) σ=some b:=by
 refine ⟨(is.map PyData.int).any fun y=>PyData.eqv y (.int i),?_⟩
 show inV σ (.int i) (is.map V.int)=_
 unfold inV
 rw[Zk8]
 rfl
theorem Zeo {α:Type}:∀(l:List α) (x:α),x∈evens l→x∈l
 | [],_,h=>h
 | [_],_,h=>h
 | a::b::r,x,h=>by
  rcases List.mem_cons.mp h with h | h
  ·subst h;simp
  ·have:=Zeo r x h;simp[this]
theorem Zep {α β:Type}(f:α→β):∀l:List α,evens (l.map f)=(evens l).map f
 | []=>rfl
 | [_]=>rfl
 | a::b::r=>congrArg (List.cons (f a)) (Zep f r)
theorem Zeq {α:Type}:∀l:List α,(evens l).length≤l.length
 | []=>Nat.le_refl _
 | [_]=>Nat.le_refl _
 | a::b::r=>Nat.succ_le_succ (Nat.le_succ_of_le (Zeq r))
theorem Zk9 (P:PWd pg)(d:Nat)(c s:Int)(hs:Big s){r:Nat}{ts:List T3}(hr:σ[r]?=some (.list (ts.map T3.v)))(hl:ts.length≤2000)(ho:∀x∈ts,okT x) :
  ∃L:List T3,L.length≤20∧(∀x∈L,okT x)∧Zh pg (d+2) 36 [.int c,.int s,.obj r] σ=some (.ok (.obj σ.length),σ++[.list (L.map T3.v)]):=by
 have hlen:=fun (ℓ:L) (h:ℓ[2]?.join=some (.obj r))=>Z6 (C:=⟨pg,Zh pg (d+1)⟩) (f:=.len) (Za (a:=.var 2) (Zb h) Ze) (Wz hr)
 have c8:Zg ⟨pg,Zh pg (d+1)⟩ (Ex.bin Bop.mod (Ex.var 0) (Ex.lit (V.int 8))) [some (.int c),some (.int s),some (.obj r),none,none,none,none,none,none,none,none] σ=some (.ok (.int (c.fmod 8)),σ):=Zi (Zb rfl) Zf (Zr (by decide) σ)
 have fin:∀(y:T3) (ℓ':L),okT y→execs ⟨pg,Zh pg (d+1)⟩ B36 [some (.int c),some (.int s),some (.obj r),none,none,none,none,none,none,none,none] σ=some (.ret (.obj σ.length),ℓ',σ++[.list [y.v]])→∃L:List T3,L.length≤20∧(∀x∈L,okT x)∧Zh pg (d+2) 36 [.int c,.int s,.obj r] σ=some (.ok (.obj σ.length),σ++[.list (L.map T3.v)]):=fun y ℓ' hy h=>⟨[y],by simp,fun x hx=>by rw[List.mem_singleton.mp hx];exact hy,Jy P.f36 rfl h (Nat.le_refl _) (Jd _ [y]) (gl σ _)⟩
 -- the first row
 have a0:∃b0,Zg ⟨pg,Zh pg (d+1)⟩ (Ex.and (Ex.cmp (Ex.bin Bop.mod (Ex.var 0) (Ex.lit (V.int 8))) (Ch.one Cop.eq (Ex.lit (V.int 7)))) (Ex.cmp (Ex.blt Blt.len (Es.cons (Ex.var 2) Es.nil)) (Ch.one Cop.lt (Ex.lit (V.int 40))))) [some (.int c),some (.int s),some (.obj r),none,none,none,none,none,none,none,none] σ=some (.ok (.bool b0),σ):=⟨_,Qo (Zk c8 Zf rfl) (Zk (hlen _ rfl) Zf rfl)⟩
 revert a0;refine rE fun b0 a0=>?_
 cases b0 with
 | true=>exact ⟨Zik s,(Zj0 s).1,(Zj0 s).2,Jy P.f36 rfl (Zp (Z7 a0 (Zp (Z1 (Zo (Za (Zb rfl) Ze) (Ztj P d s σ)))))) (Nat.le_refl _) (Jd _ _) (gl σ _)⟩
 | false=>
  refine rE (fun bm hm=>?_) (Zhq (c.fmod 8) [2,3] σ)
  by_cases hne:0<ts.length
  ·have g0:=Zk (hlen [some (.int c),some (.int s),some (.obj r),none,none,none,none,none,none,none,none] rfl) (Zf (v:=.int 0)) (gtT (i:=ts.length) (j:=0) (by exact ln1 [(.lt .k0 .v0)] (.zlt .k0 (.n .v0)) (.d 111) rfl hne))
   have a1:∃b1,Zg ⟨pg,Zh pg (d+1)⟩ (Ex.and (Ex.cmp (Ex.blt Blt.len (Es.cons (Ex.var 2) Es.nil)) (Ch.one Cop.gt (Ex.lit (V.int 0)))) (Ex.and (Ex.cmp (Ex.bin Bop.mod (Ex.var 0) (Ex.lit (V.int 8))) (Ch.one Cop.mem (Ex.tup (Es.cons (Ex.lit (V.int 2)) (Es.cons (Ex.lit (V.int 3)) Es.nil))))) (Ex.cmp (Ex.bin Bop.mod (Ex.bin Bop.fdiv (Ex.var 1) (Ex.lit (V.int 5))) (Ex.lit (V.int 3))) (Ch.one Cop.eq (Ex.lit (V.int 0)))))) [some (.int c),some (.int s),some (.obj r),none,none,none,none,none,none,none,none] σ=some (.ok (.bool b1),σ) :=
    ⟨_,Qo g0 (Qo (Zk c8 (Y4 (Za Zf (Za Zf Ze)) rfl) hm) (Zk (Zi (Zi (Zb rfl) Zf (Zt (fd 5) σ)) Zf (Zr (by decide) σ)) Zf rfl))⟩
   revert a1;refine rE fun b1 a1=>?_
   cases b1 with
   | true=>
    refine rEA (fun y hy e=>?_) (Zpz P d s hr hne ho)
    exact fin y _ hy (Zc (Zq a0 Zn) (Zp (Z7 a1 (Zp (Z1 (Uj (Za (Zo (Za (Zb rfl) (Za (Zb rfl) Ze)) e) Ze) rfl))))))
   | false=>
    by_cases h3:3<c.fmod 8
    ·have a2:=Qo (Zk c8 (Zf (v:=.int 3)) (gtT h3)) g0
     by_cases h6:c.fmod 8=6
     ·have h2:=Z8 s (m:=2) (by decide)
      have q1:Zg ⟨pg,Zh pg (d+1)⟩ (Ex.slc (Ex.var 2) (Oe.yes (Ex.bin Bop.mod (Ex.var 1) (Ex.lit (V.int 2)))) Oe.no (Oe.yes (Ex.lit (V.int 2)))) [some (.int c),some (.int s),some (.obj r),none,none,none,none,none,none,none,none] σ=some (.ok (.obj σ.length),σ++[.list ((evens (ts.drop (Z5 (s.fmod 2) ts.length))).map T3.v)]):=by
       have sv:Wg σ (.obj r) (.int (s.fmod 2)) .none (.int 2)=some (.obj σ.length,σ++[.list ((evens (ts.drop (Z5 (s.fmod 2) ts.length))).map T3.v)]):=by
        unfold Wg
        rw[Zs hr]
        show (Xo (ts.map T3.v) (.int (s.fmod 2)) .none (.int 2)).bind (Yu σ)=_
        have:Xo (ts.map T3.v) (.int (s.fmod 2)) .none (.int 2)=some ((evens (ts.drop (Z5 (s.fmod 2) ts.length))).map T3.v):=by
         show some (evens ((ts.map T3.v).drop (Z5 (s.fmod 2) (ts.map T3.v).length)))=_
         rw[← List.map_drop,Zep,List.length_map]
        rw[this]
        exact Jv (by rw[List.length_map];exact Nat.le_trans (Nat.le_trans (Zeq _) (by rw[List.length_drop];exact ln3 [(.le .v1 (.k 2000)),(.sb .v0 .v1 .v2)] (.le .v0 (.k 2000)) (.s (.d 11101) (.d 11001)) rfl hl (Zd _ _))) (show 2000≤Zl by decide)) σ
       exact Zni (Zb rfl) (Zi (Zb rfl) Zf (Zr (by decide) σ)) rfl rfl sv
      have q2:Zg ⟨pg,Zh pg (d+1)⟩ (Ex.slc (Ex.slc (Ex.var 2) (Oe.yes (Ex.bin Bop.mod (Ex.var 1) (Ex.lit (V.int 2)))) Oe.no (Oe.yes (Ex.lit (V.int 2)))) Oe.no (Oe.yes (Ex.lit (V.int 20))) Oe.no) [some (.int c),some (.int s),some (.obj r),none,none,none,none,none,none,none,none] σ=some (.ok (.obj (σ++[O.list ((evens (ts.drop (Z5 (s.fmod 2) ts.length))).map T3.v)]).length),σ++([.list ((evens (ts.drop (Z5 (s.fmod 2) ts.length))).map T3.v)]++[.list (((evens (ts.drop (Z5 (s.fmod 2) ts.length))).take (Z5 20 (evens (ts.drop (Z5 (s.fmod 2) ts.length))).length)).map T3.v)])):=by
       generalize hE:evens (ts.drop (Z5 (s.fmod 2) ts.length))=E at *
       have sv:Wg (σ++[.list (E.map T3.v)]) (.obj σ.length) .none (.int 20) .none=some (.obj (σ++[O.list (E.map T3.v)]).length,σ++([.list (E.map T3.v)]++[.list ((E.take (Z5 20 E.length)).map T3.v)])):=by
        unfold Wg
        rw[Zs (gl σ _)]
        show (Xo (E.map T3.v) .none (.int 20) .none).bind (Yu (σ++[O.list (E.map T3.v)]))=_
        have:Xo (E.map T3.v) .none (.int 20) .none=some ((E.take (Z5 20 E.length)).map T3.v):=by
         show some (((E.map T3.v).take (Z5 20 (E.map T3.v).length)).drop 0)=_
         rw[List.drop_zero,List.length_map,List.map_take]
        rw[this]
        show Yu _ _=_
        rw[Jv (by rw[List.length_map,List.length_take];exact Nat.le_trans (Nat.min_le_left _ _) (Nat.le_trans (show Z5 20 E.length≤20 by unfold Z5;rw[if_neg (by decide)];exact Nat.min_le_left _ _) (by decide))) _,List.append_assoc]
       exact Zni q1 rfl rfl rfl sv
      refine ⟨(evens (ts.drop (Z5 (s.fmod 2) ts.length))).take (Z5 20 (evens (ts.drop (Z5 (s.fmod 2) ts.length))).length),?_,fun x hx=>ho x (List.mem_of_mem_drop (Zeo _ _ (List.mem_of_mem_take hx))),?_⟩
      ·rw[List.length_take];exact Nat.le_trans (Nat.min_le_left _ _) (show Z5 20 _≤20 by unfold Z5;rw[if_neg (by decide)];exact Nat.min_le_left _ _)
      ·refine Jy P.f36 rfl (Zc (Zq a0 Zn) (Zc (Zq a1 Zn) (Zp (Z7 a2 (Zp (Z7 (Zk c8 Zf (eqT h6)) (Zp (Z1 q2)))))))) (by rw[List.length_append];exact Nat.le_add_right _ _) (Jd _ _) ?_
       rw[← List.append_assoc];exact gl _ _
     ·refine rEA (fun y hy e=>?_) (Zbe hr hne (s.fdiv 3))
      exact fin y _ (ho y hy) (Zc (Zq a0 Zn) (Zc (Zq a1 Zn) (Zp (Z7 a2 (Zc (Zq (Zk c8 Zf (eqF h6)) Zn) (Zp (Z1 (Uj (Za (Y8 (Zb rfl) (Zi (Zi (Zb rfl) Zf (Zt (fd 3) σ)) (hlen _ rfl) (Zr (by exact ln1 [(.lt .k0 .v0)] (.no (.zeq (.n .v0) .k0)) (.d 1101) rfl hne) σ)) e) Ze) rfl))))))))
    ·have a2:=Qo (Zk c8 (Zf (v:=.int 3)) (gtF h3)) g0
     exact fin _ _ (Zhp s) (Zc (Zq a0 Zn) (Zc (Zq a1 Zn) (Zc (Zq a2 Zn) (Zp (Z1 (Uj (Za (Zo (Za (Zb rfl) Ze) (Zjt P.f17 d s σ hs)) Ze) rfl))))))
  ·have g0:=Zk (hlen [some (.int c),some (.int s),some (.obj r),none,none,none,none,none,none,none,none] rfl) (Zf (v:=.int 0)) (gtF (i:=ts.length) (j:=0) (by exact ln1 [(.no (.lt .k0 .v0))] (.no (.zlt .k0 (.n .v0))) (.d 111) rfl hne))
   have a2:=Qo (Zk (op:=.gt) c8 (Zf (v:=.int 3)) rfl) g0
   rw[Bool.and_false] at a2
   exact fin _ _ (Zhp s) (Zc (Zq a0 Zn) (Zc (Zq (U4 g0) Zn) (Zc (Zq a2 Zn) (Zp (Z1 (Uj (Za (Zo (Za (Zb rfl) Ze) (Zjt P.f17 d s σ hs)) Ze) rfl))))))
end
noncomputable def I38:Ss:=(.cons (.ife (.cmp (.bin .mod (.idx .v0 .v6) (.i 8)) (.one .mem (.tup (.cons (.i 3) (.cons (.i 5) (.cons (.i 6) .nil)))))) (.cons (.expr (.mth .append .v5 (.cons (.tup (.cons (.lit (.str { cps:=#[116,97,107,101] })) (.cons .v4 (.cons (.ife (.cmp .v4 (.one .mem .v3)) (.lit (.str { cps:=#[100,111,110,101] })) (.lit (.str { cps:=#[109,105,115,115,105,110,103] }))) .nil)))) .nil))) (.cons (.asg (.one 3) (.comp .v8 8 (.ex .v3) (.cons (.cmp .v8 (.one .ne .v4)) .nil))) .nil)) (.cons (.expr (.mth .append .v5 (.cons (.tup (.cons (.lit (.str { cps:=#[112,117,116] })) (.cons .v4 (.cons (.ife (.cmp .v4 (.one .mem .v3)) (.lit (.str { cps:=#[116,119,105,99,101] })) (.lit (.str { cps:=#[100,111,110,101] }))) .nil)))) .nil))) (.cons (.asg (.one 3) (.bin .add .v3 (.bin .mul (.lst (.cons .v4 .nil)) (.blt .int (.cons (.cmp .v4 (.one .nmem .v3)) .nil))))) .nil))) .nil)
noncomputable def O38:Ss:=.cons (.for_ (.one 4) (.ex (.call 36 (.cons (.idx .v0 .v6) (.cons (.bin .add (.bin .mul (.idx .v0 .v6) (.i 48271)) (.bin .mul (.i 29) .v6)) (.cons .v3 .nil))))) I38) (.cons (.ife (.cmp (.blt .len (.cons .v5 .nil)) (.one .gt (.i 40))) (.cons .brk .nil) .nil) .nil)
noncomputable def Cons:List T3→List Dd→Prop
 | _,[]=>True
 | S,d::r=>okT d.x∧d.ok=(if d.p then !decide (d.x∈S) else decide (d.x∈S))∧Cons (nxt S d) r
theorem Cons.snoc {d:Dd}:∀{D:List Dd}{S:List T3},Cons S D→okT d.x→d.ok=(if d.p then !decide (d.x∈D.foldl nxt S) else decide (d.x∈D.foldl nxt S))→Cons S (D++[d])
 | [],S,_,h1,h2=>⟨h1,h2,trivial⟩
 | _::D,S,h,h1,h2=>⟨h.1,h.2.1,Cons.snoc h.2.2 h1 h2⟩
theorem Cons.take:∀{D:List Dd}{S:List T3} (n:Nat),Cons S D→Cons S (D.take n)
 | [],S,n,_=>by rw[List.take_nil];trivial
 | d::D,S,0,_=>trivial
 | d::D,S,n+1,h=>⟨h.1,h.2.1,Cons.take n h.2.2⟩
theorem Zp0 (S:List T3)(d:Dd):(nxt S d).length≤S.length+1:=by
 unfold nxt
 split
 ·split
  ·simp
  ·exact Nat.le_trans (List.length_filter_le _ _) (Nat.le_succ _)
 ·exact Nat.le_succ _
theorem Zj1:∀{a b:H},(∀(n:Nat) o,a[n]?=some o→b[n]?=some o)→∃τ,b=a++τ
 | [],b,_=>⟨b,rfl⟩
 | x::a,[],h=>by have:=h 0 x rfl;exact nn this
 | x::a,y::b,h=>by
  have h0:=h 0 x rfl
  refine siE h0 ?_
  refine rE (fun τ e=>?_) (Zj1 (a:=a) (b:=b) fun n o hn=>h (n+1) o hn)
  exact ⟨τ,by rw[e];rfl⟩
theorem Zer (n:Nat):∀D:List Dd,belows n (D.map ddV)=true
 | []=>rfl
 | d::r=>X8 rfl (Zer n r)
theorem Zhr (σ:H):∀ts:List T3,(ts.map T3.v).mapM (toD 6 σ)=some (ts.map tD)
 | []=>rfl
 | x::r=>by
  have h1:toD 6 σ x.v=some (tD x):=Zbd 4 σ [x.a,x.b,x.c]
  simp only[List.map_cons,List.mapM_cons,h1,Zhr σ r];rfl
theorem Znj (y x:T3):PyData.eqv (tD y) (tD x)=decide (y=x):=by
 have:=X4 [y.a,y.b,y.c] [x.a,x.b,x.c]
 have e:(decide ([y.a,y.b,y.c]=[x.a,x.b,x.c]))=decide (y=x):=by rw[decide_eq_decide,T3.eq_iff];simp
 rw[e] at this
 exact this
theorem Zq7 {r:Nat}{ts:List T3}(hr:σ[r]?=some (.list (ts.map T3.v)))(x:T3):Z9 .mem x.v (.obj r) σ=some (decide (x∈ts)):=by
 show (items σ (.obj r)).bind (inV σ x.v)=_
 rw[Uc hr]
 show inV σ x.v (ts.map T3.v)=_
 unfold inV
 rw[Zhr,show toD 6 σ x.v=some (tD x) from Zbd 4 σ [x.a,x.b,x.c]]
 show some ((ts.map tD).any fun y=>PyData.eqv y (tD x))=_
 rw[List.any_map]
 congr 1
 rw[Bool.eq_iff_iff,List.any_eq_true,decide_eq_true_eq]
 constructor
 ·intro hR0
  revert hR0;refine rEA fun y hy h=>?_
  rw[Function.comp,Znj,decide_eq_true_eq] at h
  exact h▸hy
 ·intro h
  exact ⟨x,h,by rw[Function.comp,Znj];simp⟩
theorem Ztk {r:Nat}{ts:List T3}(hr:σ[r]?=some (.list (ts.map T3.v)))(x:T3):Z9 .nmem x.v (.obj r) σ=some (!decide (x∈ts)):=by
 have:=Zq7 hr x
 show ((items σ (.obj r)).bind (inV σ x.v)).map (!·)=_
 rw[show (items σ (.obj r)).bind (inV σ x.v)=some (decide (x∈ts)) from this];rfl
theorem Zfv {n r:Nat}{o o':O}(h:σ[n]?=some o)(hn:n≠r):(σ.set r o')[n]?=some o:=by rw[List.getElem?_set_ne (fun e=>hn e.symm)];exact h
section
variable {pg:Pg}
theorem Znk {C:Cl}{c a b:Ex}{r:X V}(hc:Zg C c ℓ σ=some (.ok (.bool true),σ1))(h:Zg C a ℓ σ1=r):Zg C (.ife c a b) ℓ σ=r:=(Zy hc).trans h
theorem Znl {C:Cl}{c a b:Ex}{r:X V}(hc:Zg C c ℓ σ=some (.ok (.bool false),σ1))(h:Zg C b ℓ σ1=r):Zg C (.ife c a b) ℓ σ=r:=(Zy hc).trans h
set_option tactic.hygienic true in
theorem Zla (C:Cl){scr:List Int}{rb rk rd:Nat}{a0 iv c:Int}{x:T3}{K:List T3}{D:List Dd}(hc:Yo σ (.frz scr) (.int iv)=some (.int c))(hk:σ[rk]?=some (.list (K.map T3.v)))(hd:σ[rd]?=some (.list (D.map ddV)))(hne:rk≠rd)(hl:D.length<3000)(hlk:K.length<3000) :
  ∃p σ' rk',execs C I38 [some (.frz scr),some (.int a0),some (.obj rb),some (.obj rk),some x.v,some (.obj rd),some (.int iv),none,none,none,none,none,none,none,none] σ=some (.next,[some (.frz scr),some (.int a0),some (.obj rb),some (.obj rk'),some x.v,some (.obj rd),some (.int iv),none,none,none,none,none,none,none,none],σ')∧
   σ'[rk']?=some (.list ((nxt K ⟨p,x,if p then !decide (x∈K) else decide (x∈K)⟩).map T3.v))∧σ'[rd]?=some (.list ((D++[(⟨p,x,if p then !decide (x∈K) else decide (x∈K)⟩ : Dd)]).map ddV))∧rk'≠rd∧∀(n:Nat) o,n≠rd→σ[n]?=some o→σ'[n]?=some o:=by
 have hdl:=(List.getElem?_eq_some_iff.mp hd).1
 refine rE (fun b hb=>?_) (Zhq (c.fmod 8) [3,5,6] σ)
 have cnd:Zg C (Ex.cmp (Ex.bin Bop.mod (Ex.idx (Ex.var 0) (Ex.var 6)) (Ex.lit (V.int 8))) (Ch.one Cop.mem (Ex.tup (Es.cons (Ex.lit (V.int 3)) (Es.cons (Ex.lit (V.int 5)) (Es.cons (Ex.lit (V.int 6)) Es.nil)))))) [some (.frz scr),some (.int a0),some (.obj rb),some (.obj rk),some x.v,some (.obj rd),some (.int iv),none,none,none,none,none,none,none,none] σ=some (.ok (.bool b),σ) :=
  Zk (Zi (Y8 (Zb rfl) (Zb rfl) hc) Zf (Zr (by decide) σ)) (Y4 (Za Zf (Za Zf (Za Zf Ze))) rfl) hb
 have inn:=Zq7 hk x
 have happ:∀dd:Dd,W3 .append (.obj rd) [ddV dd] σ=some (.none,σ.set rd (.list ((D++[dd]).map ddV))):=fun dd=>by
  have h:(D.map ddV).length<Zl:=by rw[List.length_map];exact Nat.lt_trans hl (by decide)
  simp only[W3,X9,Option.bind_some,Zs hd,Zlj,Xh,if_pos h,Yi,List.map_append,List.map_cons,List.map_nil]
 have l1:(Zl:Nat)=1000000:=rfl
 cases b with
 | true=>
  refine ⟨false,?_⟩
  generalize hdd:(⟨false,x,if false=true then !decide (x∈K) else decide (x∈K)⟩ : Dd)=dd
  generalize e1:σ.set rd (.list ((D++[dd]).map ddV))=s1
  have hk1:s1[rk]?=some (.list (K.map T3.v)):=e1▸Zfv hk hne
  have wd:Zg C (Ex.tup (Es.cons (Ex.lit (V.str { cps:=#[116,97,107,101] })) (Es.cons (Ex.var 4) (Es.cons (Ex.ife (Ex.cmp (Ex.var 4) (Ch.one Cop.mem (Ex.var 3))) (Ex.lit (V.str { cps:=#[100,111,110,101] })) (Ex.lit (V.str { cps:=#[109,105,115,115,105,110,103] }))) Es.nil)))) [some (.frz scr),some (.int a0),some (.obj rb),some (.obj rk),some x.v,some (.obj rd),some (.int iv),none,none,none,none,none,none,none,none] σ=some (.ok (ddV dd),σ):=by
   rw[← hdd]
   have t1:=Zk (C:=C) (ℓ:=[some (.frz scr),some (.int a0),some (.obj rb),some (.obj rk),some x.v,some (.obj rd),some (.int iv),none,none,none,none,none,none,none,none]) (a:=.var 4) (b:=.var 3) (Zb rfl) (Zb rfl) inn
   by_cases hm:x∈K
   ·rw[decide_eq_true hm] at t1 ⊢
    exact Y4 (Za Zf (Za (Zb rfl) (Za (Znk t1 Zf) Ze))) rfl
   ·rw[decide_eq_false hm] at t1 ⊢
    exact Y4 (Za Zf (Za (Zb rfl) (Za (Znl t1 Zf) Ze))) rfl
  have cm:=Yx (C:=C) (elt:=.var 8) (tg:=8) (it:=.ex (.var 3)) (ifs:=Es.cons (Ex.cmp (Ex.var 8) (Ch.one Cop.ne (Ex.var 4))) Es.nil) (ℓ:=[some (.frz scr),some (.int a0),some (.obj rb),some (.obj rk),some x.v,some (.obj rd),some (.int iv),none,none,none,none,none,none,none,none]) T3.v (fun y=>if (!decide (y=x))=true then some y.v else none) (Jc (Zb rfl) hk1) hk1 (Nat.le_of_ble_eq_true rfl) (Nat.le_trans (Nat.le_of_lt hlk) (by decide)) fun y u_=>Zcb (X3 (Zk (Zb rfl) (Zb rfl) (Zu8 y x s1))) (Zb rfl)
  rw[Yp] at cm
  have hnx:nxt K dd=K.filter fun y=>!decide (y=x):=by
   rw[← hdd]
   unfold nxt
   by_cases hm:x∈K
   ·simp[hm]
   ·have:K.filter (fun y=>!decide (y=x))=K:=List.filter_eq_self.mpr fun y hy=>by simp;rintro rfl;exact hm hy
    rw[this];simp[hm]
  refine ⟨_,s1.length,Zv (Z7 cnd (Zc (Y7 (Xd (Zb rfl) (Zs hd) (Za wd Ze) (e1▸happ dd))) (Zv (Zx cm rfl)))),by rw[hnx];exact gl s1 _,Zj (e1▸List.getElem?_set_self hdl),?_,fun n o hn h=>Zj (e1▸Zfv h hn)⟩
  rw[← e1,List.length_set];lia
 | false=>
  refine ⟨true,?_⟩
  generalize hdd:(⟨true,x,if true=true then !decide (x∈K) else decide (x∈K)⟩ : Dd)=dd
  generalize e1:σ.set rd (.list ((D++[dd]).map ddV))=s1
  have hk1:s1[rk]?=some (.list (K.map T3.v)):=e1▸Zfv hk hne
  have hd1:s1[rd]?=some (.list ((D++[dd]).map ddV)):=e1▸List.getElem?_set_self hdl
  have wd:Zg C (Ex.tup (Es.cons (Ex.lit (V.str { cps:=#[112,117,116] })) (Es.cons (Ex.var 4) (Es.cons (Ex.ife (Ex.cmp (Ex.var 4) (Ch.one Cop.mem (Ex.var 3))) (Ex.lit (V.str { cps:=#[116,119,105,99,101] })) (Ex.lit (V.str { cps:=#[100,111,110,101] }))) Es.nil)))) [some (.frz scr),some (.int a0),some (.obj rb),some (.obj rk),some x.v,some (.obj rd),some (.int iv),none,none,none,none,none,none,none,none] σ=some (.ok (ddV dd),σ):=by
   rw[← hdd]
   have t1:=Zk (C:=C) (ℓ:=[some (.frz scr),some (.int a0),some (.obj rb),some (.obj rk),some x.v,some (.obj rd),some (.int iv),none,none,none,none,none,none,none,none]) (a:=.var 4) (b:=.var 3) (Zb rfl) (Zb rfl) inn
   by_cases hm:x∈K
   ·rw[decide_eq_true hm] at t1 ⊢
    exact Y4 (Za Zf (Za (Zb rfl) (Za (Znk t1 Zf) Ze))) rfl
   ·rw[decide_eq_false hm] at t1 ⊢
    exact Y4 (Za Zf (Za (Zb rfl) (Za (Znl t1 Zf) Ze))) rfl
  generalize e2:s1++[O.list [x.v]]=s2
  have hk2:s2[rk]?=some (.list (K.map T3.v)):=e2▸Zj hk1
  have n2:s2[s1.length]?=some (.list [x.v]):=e2▸gl s1 _
  have q1:Zg C (Ex.lst (Es.cons (Ex.var 4) Es.nil)) [some (.frz scr),some (.int a0),some (.obj rb),some (.obj rk),some x.v,some (.obj rd),some (.int iv),none,none,none,none,none,none,none,none] s1=some (.ok (.obj s1.length),s2):=e2▸Uj (Za (Zb rfl) Ze) rfl
  have hnx:nxt K dd=K++(if x∈K then [] else [x]):=by
   rw[← hdd]
   unfold nxt
   by_cases hm:x∈K <;> simp[hm]
  have q2:Zg C (Ex.bin Bop.mul (Ex.lst (Es.cons (Ex.var 4) Es.nil)) (Ex.blt Blt.int (Es.cons (Ex.cmp (Ex.var 4) (Ch.one Cop.nmem (Ex.var 3))) Es.nil))) [some (.frz scr),some (.int a0),some (.obj rb),some (.obj rk),some x.v,some (.obj rd),some (.int iv),none,none,none,none,none,none,none,none] s1=some (.ok (.obj s2.length),s2++[.list ((if x∈K then [] else [x]).map T3.v)]):=by
   have t2:=Ztk hk2 x
   by_cases hm:x∈K
   ·rw[decide_eq_true hm] at t2
    rw[if_pos hm]
    refine Zi q1 (Z6 (Za (Zk (Zb rfl) (Zb rfl) t2) Ze) rfl) ?_
    show Zkf s2 (.obj s1.length) (.int 0)=_
    unfold Zkf
    rw[show J0 (V.int 0)=some 0 from rfl,Option.bind_some,Zs n2,Option.bind_some]
    rfl
   ·rw[decide_eq_false hm] at t2
    rw[if_neg hm]
    refine Zi q1 (Z6 (Za (Zk (Zb rfl) (Zb rfl) t2) Ze) rfl) ?_
    show Zkf s2 (.obj s1.length) (.int 1)=_
    unfold Zkf
    rw[show J0 (V.int 1)=some 1 from rfl,Option.bind_some,Zs n2,Option.bind_some]
    rfl
  generalize e3:s2++[O.list ((if x∈K then [] else [x]).map T3.v)]=s3 at q2
  have cc:=Zdm (σ:=s3) (i:=rk) (j:=s2.length) (l:=K.map T3.v) (l':=(if x∈K then [] else [x]).map T3.v) (e3▸Zj hk2) (e3▸gl s2 _) (by rw[List.length_append,List.length_map,List.length_map,l1];split <;> simp <;> lia)
  rw[← List.map_append,← hnx] at cc
  refine ⟨_,s3.length,Zv (Zq cnd (Zc (Y7 (Xd (Zb rfl) (Zs hd) (Za wd Ze) (e1▸happ dd))) (Zv (Zx (Zi (Zb rfl) q2 cc) rfl)))),gl s3 _,Zj (e3▸Zj (e2▸Zj hd1)),?_,fun n o hn h=>Zj (e3▸Zj (e2▸Zj (e1▸Zfv h hn)))⟩
  rw[← e3,← e2,← e1];simp;lia
end
noncomputable def Znm:St:=(.asg (.one 3) (.blt .list (.cons .v2 .nil)))
noncomputable def Znn:St:=(.asg (.one 5) (.comp (.tup (.cons (.lit (.str { cps:=#[112,117,116] })) (.cons .v8 (.cons (.lit (.str { cps:=#[100,111,110,101] })) .nil)))) 8 (.ex .v2) .nil))
noncomputable def Zno:St:=(.for_ (.one 6) (.rng2 .v1 (.blt .len (.cons .v0 .nil))) (.cons (.for_ (.one 4) (.ex (.call 36 (.cons (.idx .v0 .v6) (.cons (.bin .add (.bin .mul (.idx .v0 .v6) (.i 48271)) (.bin .mul (.i 29) .v6)) (.cons .v3 .nil))))) (.cons (.ife (.cmp (.bin .mod (.idx .v0 .v6) (.i 8)) (.one .mem (.tup (.cons (.i 3) (.cons (.i 5) (.cons (.i 6) .nil)))))) (.cons (.expr (.mth .append .v5 (.cons (.tup (.cons (.lit (.str { cps:=#[116,97,107,101] })) (.cons .v4 (.cons (.ife (.cmp .v4 (.one .mem .v3)) (.lit (.str { cps:=#[100,111,110,101] })) (.lit (.str { cps:=#[109,105,115,115,105,110,103] }))) .nil)))) .nil))) (.cons (.asg (.one 3) (.comp .v8 8 (.ex .v3) (.cons (.cmp .v8 (.one .ne .v4)) .nil))) .nil)) (.cons (.expr (.mth .append .v5 (.cons (.tup (.cons (.lit (.str { cps:=#[112,117,116] })) (.cons .v4 (.cons (.ife (.cmp .v4 (.one .mem .v3)) (.lit (.str { cps:=#[116,119,105,99,101] })) (.lit (.str { cps:=#[100,111,110,101] }))) .nil)))) .nil))) (.cons (.asg (.one 3) (.bin .add .v3 (.bin .mul (.lst (.cons .v4 .nil)) (.blt .int (.cons (.cmp .v4 (.one .nmem .v3)) .nil))))) .nil))) .nil)) (.cons (.ife (.cmp (.blt .len (.cons .v5 .nil)) (.one .gt (.i 40))) (.cons .brk .nil) .nil) .nil)))
section
variable {pg:Pg}
noncomputable def lc9 (a0:Nat)(scr:List Int)(rb rk rd:Nat)(v4 v6:Option V):L:=[some (.frz scr),some (.int (a0:Nat)),some (.obj rb),some (.obj rk),v4,some (.obj rd),v6,none,none,none,none,none,none,none,none]
structure DI (a0:Nat)(scr:List Int)(rb rd:Nat)(N:Nat)(s0:H)(v6:Option V)(ℓ:L)(σ:H):Prop where
 ex:∃K D rk v4,ℓ=lc9 a0 scr rb rk rd v4 v6∧σ[rk]?=some (.list (K.map T3.v))∧σ[rd]?=some (.list (D.map ddV))∧rk≠rd∧Cons [] D∧K=D.foldl nxt []∧(∀x∈K,okT x)∧D.length≤N∧K.length≤D.length
 old:∀(n:Nat) o,n≠rd→s0[n]?=some o→σ[n]?=some o
theorem Znp {K:List T3}{d:Dd}(h:∀x∈K,okT x)(hd:okT d.x):∀x∈nxt K d,okT x:=by
 intro x hx
 unfold nxt at hx
 split at hx
 ·split at hx
  ·rcases List.mem_append.mp hx with hx | hx
   ·exact h x hx
   ·rw[List.mem_singleton.mp hx];exact hd
  ·exact h x (List.mem_filter.mp hx).1
 ·exact h x hx
set_option tactic.hygienic true in
theorem Znq (C:Cl){a0:Nat}{scr:List Int}{rb rd k N:Nat}{c:Int}{s0:H}{ri:Nat}{Ls:List T3}(hc:∀σ:H,Yo σ (.frz scr) (.int ((a0:Int)+(k:Int)))=some (.int c))(hN:N+Ls.length<3000)(hi:s0[ri]?=some (.list (Ls.map T3.v)))(hir:ri≠rd)(ho:∀x∈Ls,okT x) 
  (h:DI a0 scr rb rd N s0 (some (.int ((a0:Int)+(k:Int)))) ℓ s0):∃ℓ' σ',Zaf (execs C I38) (.one 4) (fun σ'=>σ'[ri]?=some (.list (Ls.map T3.v))) (Ls.map T3.v) ℓ s0=some (.next,ℓ',σ')∧DI a0 scr rb rd (N+Ls.length) s0 (some (.int ((a0:Int)+(k:Int)))) ℓ' σ':=by
 refine Wv (body:=execs C I38) (t:=4) (keep:=fun σ'=>σ'[ri]?=some (.list (Ls.map T3.v))) T3.v (fun r ℓ σ=>r.length≤Ls.length∧(∀x∈r,okT x)∧DI a0 scr rb rd (N+(Ls.length-r.length)) s0 (some (.int ((a0:Int)+(k:Int)))) ℓ σ) (fun ℓ σ=>DI a0 scr rb rd (N+Ls.length) s0 (some (.int ((a0:Int)+(k:Int)))) ℓ σ) (fun ℓ σ h=>by simpa using h.2.2) (fun x r ℓ σ h=>?_) Ls ℓ s0 ⟨Nat.le_refl _,ho,by simpa using h⟩
 refine rAA (fun hl hr hO2=>?_) h;obtain ⟨⟨K,D,rk,v4,rfl,h1,h2,h3,h4,h5,h6,h7,h8⟩,hold⟩:=hO2
 refine ⟨by show 4<15;decide,.inl ?_⟩
 have hlen:(x::r).length=r.length+1:=rfl
 obtain ⟨p,σ',rk',e,g1,g2,g3,g4⟩:=Zla C (x:=x) (rb:=rb) (hc σ) h1 h2 h3 (by exact ln5 [(.lt (.a .v1 .v2) (.k 3000)),(.le .v0 (.a .v1 .v3)),(.sb .v3 .v2 .v4)] (.lt .v0 (.k 3000)) (.s (.d 111101) (.d 111101)) rfl hN h7 (Zd _ _)) (by exact ln6 [(.lt (.a .v1 .v2) (.k 3000)),(.le .v3 (.a .v1 .v4)),(.le .v0 .v3),(.sb .v4 .v2 .v5)] (.lt .v0 (.k 3000)) (.s (.d 1111101) (.d 1111101)) rfl hN h7 h8 (Zd _ _))
 refine ⟨_,σ',e,g4 ri _ hir (hold ri _ hir hi),by exact ln3 [(.le .v2 .v1),(.eq .v2 (.a .v0 .k1))] (.le .v0 .v1) (.d 11101) rfl hl hlen,fun y hy=>hr y (List.mem_cons_of_mem _ hy),⟨_,_,rk',some x.v,rfl,g1,g2,g3,h4.snoc (hr x List.mem_cons_self) (by rw[← h5]),?_,Znp h6 (hr x List.mem_cons_self),?_,?_⟩,fun n o hn h=>g4 n o hn (hold n o hn h)⟩
 ·rw[List.foldl_append,h5];rfl
 ·rw[List.length_append];show D.length+1≤_;exact ln7 [(.le .v3 .v4),(.le .v0 (.a .v1 .v5)),(.eq .v3 (.a .v6 .k1)),(.sb .v5 .v4 .v3),(.sb .v2 .v4 .v6)] (.le (.a .v0 .k1) (.a .v1 .v2)) (.s (.s (.d 110101010001) (.d 1010010001)) (.s (.d 111101010001) (.d 1010010001))) rfl hl h7 hlen (Zd _ _) (Zd _ _)
 ·rw[List.length_append];exact Nat.le_trans (Zp0 _ _) (Nat.add_le_add_right h8 1)
theorem Zil {r:Nat}{D:List Dd}(hr:σ[r]?=some (.list (D.map ddV))):Wa .len [.obj r] σ=some (.int D.length,σ):=by
 show (items σ (.obj r)).map _=_
 rw[Uc hr];simp
theorem Zp1 {l:List Int}{k:Nat}(h:k<l.length)(σ:H){i:Int}(hi:i=k):Yo σ (.frz l) (.int i)=some (.int (l.getD k 0)):=by
 subst hi
 rw[Zif]
 show (Zco (k:Int) (l.map V.int).length).bind (fun j=>(l.map V.int)[j]?)=_
 have:Zco (k:Int) (l.map V.int).length=some k:=by unfold Zco;rw[if_pos (by exact ln1 [] (.zle .k0 (.n .v0)) (.d 11) rfl),if_pos (by rw[List.length_map];exact ln2 [(.lt .v0 .v1)] (.zlt (.n .v0) (.n .v1)) (.d 111) rfl h)];rfl
 rw[this]
 simp[List.getD_eq_getElem?_getD,h]
set_option tactic.hygienic true in
theorem Zim (P:PWd pg)(d a0:Nat)(ha0:a0≤1){scr:List Int}(hb:∀x∈scr,x.natAbs<2^(2^20))(hsl:scr.length≤63){rb:Nat}{bg:List T3}(hrb:σ[rb]?=some (.list (bg.map T3.v)))(hbl:bg.length≤100)(hbn:bg.Nodup)(hbo:∀x∈bg,okT x) :
  ∃(D:List Dd) (rd:Nat) (s3:H) (ℓ:L),execs ⟨pg,Zh pg (d+2)⟩ (.cons Znm (.cons Znn (.cons Zno .nil))) [some (.frz scr),some (.int (a0:Nat)),some (.obj rb),none,none,none,none,none,none,none,none,none,none,none,none] σ=some (.next,ℓ,s3)∧ℓ[5]?.join=some (.obj rd)∧ℓ[2]?.join=some (.obj rb)∧Cons [] D∧s3[rd]?=some (.list (D.map ddV))∧s3[rb]?=some (.list (bg.map T3.v))∧(∃τ,s3=σ++τ):=by
 have hrbl:=(List.getElem?_eq_some_iff.mp hrb).1
 -- the first deeds
 have big:∀(l:List T3) (S:List T3),(∀x∈l,okT x)→(S++l).Nodup→Cons S (l.map fun x=>⟨true,x,true⟩)∧(l.map fun x=>(⟨true,x,true⟩ : Dd)).foldl nxt S=S++l:=by
  intro l
  induction l with
  | nil=>intro S _ _;exact ⟨trivial,by simp⟩
  | cons x l ih=>
   intro S ho hn
   have hx:x ∉ S:=fun h=>by rw[List.nodup_append] at hn;exact hn.2.2 x h x List.mem_cons_self rfl
   refine rA (fun i1 i2=>?_) (ih (S++[x]) (fun y hy=>ho y (List.mem_cons_of_mem _ hy)) (by simpa using hn))
   refine ⟨⟨ho x List.mem_cons_self,by simp[hx],i1⟩,?_⟩
   show (l.map fun x=>(⟨true,x,true⟩ : Dd)).foldl nxt (S++[x])=_
   rw[i2];simp
 refine rA (fun b1 b2=>?_) (big bg [] hbo (by simpa using hbn))
 generalize e1:σ++[O.list (bg.map T3.v)]=s1
 have hrb1:s1[rb]?=some (.list (bg.map T3.v)):=e1▸Zj hrb
 have r0:exec ⟨pg,Zh pg (d+2)⟩ Znm [some (.frz scr),some (.int (a0:Nat)),some (.obj rb),none,none,none,none,none,none,none,none,none,none,none,none] σ=some (.next,[some (.frz scr),some (.int (a0:Nat)),some (.obj rb),some (.obj σ.length),none,none,none,none,none,none,none,none,none,none,none],s1):=by
  refine e1▸Zx (Z6 (Za (Zb rfl) Ze) ?_) rfl
  show (Yg σ (.obj rb)).bind (Yu σ)=_
  rw[Zs hrb]
  exact Jv (by rw[List.length_map];exact Nat.le_trans hbl (by decide)) σ
 generalize e2:s1++[O.list ((bg.map fun x=>(⟨true,x,true⟩ : Dd)).map ddV)]=s2
 have r1:exec ⟨pg,Zh pg (d+2)⟩ Znn [some (.frz scr),some (.int (a0:Nat)),some (.obj rb),some (.obj σ.length),none,none,none,none,none,none,none,none,none,none,none] s1=some (.next,[some (.frz scr),some (.int (a0:Nat)),some (.obj rb),some (.obj σ.length),none,some (.obj s1.length),none,none,none,none,none,none,none,none,none],s2):=by
  have cm:=Yx (C:=⟨pg,Zh pg (d+2)⟩) (elt:=Ex.tup (Es.cons (Ex.lit (V.str { cps:=#[112,117,116] })) (Es.cons (Ex.var 8) (Es.cons (Ex.lit (V.str { cps:=#[100,111,110,101] })) Es.nil)))) (tg:=8) (it:=.ex (.var 2)) (ifs:=.nil) (ℓ:=[some (.frz scr),some (.int (a0:Nat)),some (.obj rb),some (.obj σ.length),none,none,none,none,none,none,none,none,none,none,none]) T3.v (fun x=>some (ddV ⟨true,x,true⟩)) (Jc (Zb rfl) hrb1) hrb1 (Nat.le_of_ble_eq_true rfl) (Nat.le_trans hbl (by decide)) fun y u_=>Zcb (p:=true) Zdg (Y4 (Za Zf (Za (Zb rfl) (Za Zf Ze))) rfl)
  rw[List.filterMap_eq_map',show (bg.map fun x=>ddV ⟨true,x,true⟩)=(bg.map fun x=>(⟨true,x,true⟩ : Dd)).map ddV by rw[List.map_map];rfl,e2] at cm
  exact Zx cm rfl
 have hs1:s1.length=σ.length+1:=by rw[← e1];simp
 have hrb2:s2[rb]?=some (.list (bg.map T3.v)):=e2▸Zj hrb1
 -- the outer Zl8
 have it:Wy ⟨pg,Zh pg (d+2)⟩ (It.rng2 (Ex.var 1) (Ex.blt Blt.len (Es.cons (Ex.var 0) Es.nil))) (lc9 a0 scr rb σ.length s1.length none none) s2=some (.ok ⟨(List.range (((scr.length:Int)-(a0:Nat)).toNat)).map (fun k=>V.int ((a0:Nat)+(k:Nat))),fun u_=>True⟩,s2):=by
  have hl:Wa .len [.frz scr] s2=some (.int scr.length,s2):=by show some (V.int ((scr.map V.int).length:Nat),s2)=_;rw[List.length_map]
  have h1:Zg ⟨pg,Zh pg (d+2)⟩ (Ex.var 1) (lc9 a0 scr rb σ.length s1.length none none) s2=some (.ok (.int (a0:Nat)),s2):=Zb rfl
  have h2:Zg ⟨pg,Zh pg (d+2)⟩ (Ex.blt Blt.len (Es.cons (Ex.var 0) Es.nil)) (lc9 a0 scr rb σ.length s1.length none none) s2=some (.ok (.int scr.length),s2):=Z6 (Za (Zb rfl) Ze) hl
  exact Zpp h1 h2 (by have:((Zl:Nat):Int)=1000000:=rfl;lia)
 obtain ⟨ℓ3,s3,e3,D3⟩ : ∃ℓ' σ',Zaf (execs ⟨pg,Zh pg (d+2)⟩ O38) (.one 6) (fun u_=>True) ((List.range (((scr.length:Int)-(a0:Nat)).toNat)).map (fun k=>V.int ((a0:Nat)+(k:Nat)))) (lc9 a0 scr rb σ.length s1.length none none) s2=some (.next,ℓ',σ')∧∃v6,DI a0 scr rb s1.length 1400 s2 v6 ℓ' σ':=by
  have hR:(((scr.length:Int)-(a0:Nat)).toNat)≤63:=by exact ln3 [(.le .v1 (.k 63)),(.nt .v0 (.s (.n .v1) (.n .v2)))] (.le .v0 (.k 63)) (.s (.d 11101) (.d 11001)) rfl hsl (U2 _)
  have hD0:DI a0 scr rb s1.length 100 s2 none (lc9 a0 scr rb σ.length s1.length none none) s2:=⟨⟨bg,bg.map fun x=>(⟨true,x,true⟩ : Dd),σ.length,none,rfl,e2▸Zj (e1▸gl σ _),e2▸gl s1 _,by exact ln2 [(.eq .v1 (.a .v0 .k1))] (.no (.eq .v0 .v1)) (.d 10101) rfl hs1,b1,by rw[b2];rfl,hbo,by rw[List.length_map];exact hbl,by rw[List.length_map];exact Nat.le_refl _⟩,fun n o u_ h=>h⟩
  refine Wv (body:=execs ⟨pg,Zh pg (d+2)⟩ O38) (t:=6) (keep:=fun u_=>True) (fun k:Nat=>V.int ((a0:Nat)+(k:Nat))) (fun r ℓ σ'=>r.length≤63∧(∀k∈r,a0+k<scr.length)∧∃v6,DI a0 scr rb s1.length (1360-20*r.length) s2 v6 ℓ σ') (fun ℓ σ'=>∃v6,DI a0 scr rb s1.length 1400 s2 v6 ℓ σ') (fun ℓ σ' h=>?_) (fun k r ℓ σc h=>?_) (List.range (((scr.length:Int)-(a0:Nat)).toNat)) _ s2 ⟨by rw[List.length_range];exact hR,fun k hk=>by have:=List.mem_range.mp hk;lia,none,?_⟩
  ·revert h;refine Zlf fun u0_ u1_ v6 hO3=>?_;obtain ⟨hO0,o⟩:=hO3;revert hO0;refine Jw fun K D rk v4 q=>?_
   exact ⟨v6,⟨K,D,rk,v4,q.1,q.2.1,q.2.2.1,q.2.2.2.1,q.2.2.2.2.1,q.2.2.2.2.2.1,q.2.2.2.2.2.2.1,by have:=q.2.2.2.2.2.2.2.1;lia,q.2.2.2.2.2.2.2.2⟩,o⟩
  ·revert h;refine Zlf fun hl hk v6 hO3=>?_;obtain ⟨hO0,hold⟩:=hO3;revert hO0;refine Jg fun K D rk v4 hO4 h1 h2 h3 h4 h5 h6 h7 h8=>?_;refine eqS hO4 ?_
   have hlen:(k::r).length=r.length+1:=rfl
   have hk1:=hk k List.mem_cons_self
   refine ⟨by show 6<15;decide,?_⟩
   have hcell:∀τ:H,Yo τ (.frz scr) (.int ((a0:Int)+(k:Int)))=some (.int (scr.getD (a0+k) 0)):=fun τ=>Zp1 hk1 τ (by exact ln2 [] (.zeq (.a (.n .v0) (.n .v1)) (.n (.a .v0 .v1))) (.s (.d 11) (.d 11)) rfl)
   have hbig:=Zta hb (a0+k) (29*(a0+k)) (by exact ln3 [(.le .v2 (.k 63)),(.lt (.a .v0 .v1) .v2)] (.lt (.m 29 (.a .v0 .v1)) (.k 65536)) (.l [1,29,29]) rfl hsl hk1)
   refine J5 (fun Ls l1 l2 l3=>?_) (Zk9 P d (scr.getD (a0+k) 0) _ hbig h1 (by exact ln4 [(.le .v1 .v2),(.le .v0 .v1),(.sb .v2 (.k 1360) (.m 20 .v3))] (.le .v0 (.k 2000)) (.s (.d 111101) (.d 111101)) rfl h7 h8 (Zd _ _)) h6)
   generalize e4:σc++[O.list (Ls.map T3.v)]=s4 at l3
   have hpk:Zg ⟨pg,Zh pg (d+2)⟩ (Ex.call 36 (Es.cons (Ex.idx (Ex.var 0) (Ex.var 6)) (Es.cons (Ex.bin Bop.add (Ex.bin Bop.mul (Ex.idx (Ex.var 0) (Ex.var 6)) (Ex.lit (V.int 48271))) (Ex.bin Bop.mul (Ex.lit (V.int 29)) (Ex.var 6))) (Es.cons (Ex.var 3) Es.nil)))) (lc9 a0 scr rb rk s1.length v4 (some (.int ((a0:Int)+(k:Int))))) σc=some (.ok (.obj σc.length),s4):=by
    refine Zo (Za (Y8 (Zb rfl) (Zb rfl) (hcell σc)) (Za (Zi (Zi (Y8 (Zb rfl) (Zb rfl) (hcell σc)) Zf (Je (ml (by decide)) σc)) (Zi Zf (Zb rfl) (Je (Zbu (by decide) (by decide)) σc)) (Z2 _ _ _)) (Za (Zb rfl) Ze))) ?_
    rw[show (scr.getD (a0+k) 0*48271+29*((a0:Int)+(k:Int)):Int)=scr.getD (a0+k) 0*48271+((29*(a0+k):Nat):Int) by push_cast;rfl]
    exact l3
   have hrdl:s1.length<σc.length:=(List.getElem?_eq_some_iff.mp h2).1
   have hDI:DI a0 scr rb s1.length D.length s4 (some (.int ((a0:Int)+(k:Int)))) (lc9 a0 scr rb rk s1.length v4 (some (.int ((a0:Int)+(k:Int))))) s4:=⟨⟨K,D,rk,v4,rfl,e4▸Zj h1,e4▸Zj h2,h3,h4,h5,h6,Nat.le_refl _,h8⟩,fun n o u_ h=>h⟩
   refine Jz (fun ℓ5 s5 f5 D5=>?_) (Znq ⟨pg,Zh pg (d+2)⟩ (c:=scr.getD (a0+k) 0) (ri:=σc.length) hcell (by exact ln4 [(.le .v0 .v2),(.le .v1 (.k 20)),(.sb .v2 (.k 1360) (.m 20 .v3))] (.lt (.a .v0 .v1) (.k 3000)) (.s (.d 111101) (.d 111101)) rfl h7 l1 (Zd _ _)) (e4▸gl σc _) (by exact ln2 [(.lt .v1 .v0)] (.no (.eq .v0 .v1)) (.d 1101) rfl hrdl) l2 hDI)
   have rA:exec ⟨pg,Zh pg (d+2)⟩ (.for_ (Tg.one 4) (It.ex (Ex.call 36 (Es.cons (Ex.idx (Ex.var 0) (Ex.var 6)) (Es.cons (Ex.bin Bop.add (Ex.bin Bop.mul (Ex.idx (Ex.var 0) (Ex.var 6)) (Ex.lit (V.int 48271))) (Ex.bin Bop.mul (Ex.lit (V.int 29)) (Ex.var 6))) (Es.cons (Ex.var 3) Es.nil))))) I38) (lc9 a0 scr rb rk s1.length v4 (some (.int ((a0:Int)+(k:Int))))) σc=some (.next,ℓ5,s5):=(Xj (Jc hpk (e4▸gl σc _))).trans f5
   refine byC fun hX=>?_;obtain ⟨hO0,old5⟩:=D5;refine hX ?_;clear hX;refine byC fun hX=>?_;revert hO0;refine Jg fun K5 D5' rk5 v45 hO4 g1 g2 g3 g4 g5 g6 g7 g8=>?_;obtain rfl:=hO4;refine hX ?_;clear hX
   have old:∀(n:Nat) o,n≠s1.length→s2[n]?=some o→s5[n]?=some o:=fun n o hn h=>old5 n o hn (e4▸Zj (hold n o hn h))
   have hrb5:s5[rb]?=some (.list (bg.map T3.v)):=old rb _ (by exact ln3 [(.lt .v0 .v2),(.eq .v1 (.a .v2 .k1))] (.no (.eq .v0 .v1)) (.d 101101) rfl hrbl hs1) hrb2
   have hcnd:Zg ⟨pg,Zh pg (d+2)⟩ (Ex.cmp (Ex.blt Blt.len (Es.cons (Ex.var 5) Es.nil)) (Ch.one Cop.gt (Ex.lit (V.int 40)))) (lc9 a0 scr rb rk5 s1.length v45 (some (.int ((a0:Int)+(k:Int))))) s5=some (.ok (.bool (decide ((40:Int)<D5'.length))),s5):=Zk (Z6 (Za (Zb rfl) Ze) (Zil g2)) Zf rfl
   by_cases hbk:(40:Int)<D5'.length
   ·rw[decide_eq_true hbk] at hcnd
    exact .inr ⟨_,s5,Zc rA (Zfq (Z7 hcnd (Zfq Zql))),some (.int ((a0:Int)+(k:Int))),⟨K5,D5',rk5,v45,rfl,g1,g2,g3,g4,g5,g6,by exact ln5 [(.le .v1 .v2),(.le .v3 (.k 20)),(.le .v0 (.a .v1 .v3)),(.sb .v2 (.k 1360) (.m 20 .v4))] (.le .v0 (.k 1400)) (.s (.d 1111101) (.d 1111101)) rfl h7 l1 g7 (Zd _ _),g8⟩,old⟩
   ·rw[decide_eq_false hbk] at hcnd
    exact .inl ⟨_,s5,Zc rA (Zv (Zq hcnd Zn)),trivial,by exact ln2 [(.le .v1 (.k 63)),(.eq .v1 (.a .v0 .k1))] (.le .v0 (.k 63)) (.d 11101) rfl hl hlen,fun j hj=>hk j (List.mem_cons_of_mem _ hj),some (.int ((a0:Int)+(k:Int))),⟨K5,D5',rk5,v45,rfl,g1,g2,g3,g4,g5,g6,by exact ln7 [(.le .v2 (.k 63)),(.le .v3 .v4),(.eq .v2 (.a .v5 .k1)),(.le .v6 (.k 20)),(.le .v0 (.a .v3 .v6)),(.sb .v4 (.k 1360) (.m 20 .v2)),(.sb .v1 (.k 1360) (.m 20 .v5))] (.le .v0 .v1) (.s (.s (.l [1,0,1,0,20,1,1,0,1,0,0,0,1]) (.l [0,20,0,0,20,0,0,0,0,0,1])) (.s (.l [0,20,0,0,0,0,0,1]) (.l [0,20,0,0,0,0,0,1]))) rfl hl h7 hlen l1 g7 (Zd _ _) (Zd _ _),g8⟩,old⟩
  ·rw[List.length_range]
   refine byC fun hX=>?_;obtain ⟨hO0,o⟩:=hD0;refine hX ?_;clear hX;revert hO0;refine Jw fun K D rk v4 q=>?_
   exact ⟨⟨K,D,rk,v4,q.1,q.2.1,q.2.2.1,q.2.2.2.1,q.2.2.2.2.1,q.2.2.2.2.2.1,q.2.2.2.2.2.2.1,by have:=q.2.2.2.2.2.2.2.1;lia,q.2.2.2.2.2.2.2.2⟩,o⟩
 revert D3;refine rE fun v6 hO1=>?_;obtain ⟨hO0,hold⟩:=hO1;refine byC fun hX=>?_;revert hO0;refine Jg fun K D rk v4 hO4 h1 h2 h3 h4 h5 h6 h7 h8=>?_;obtain rfl:=hO4;refine hX ?_;clear hX
 have r2:exec ⟨pg,Zh pg (d+2)⟩ Zno [some (.frz scr),some (.int (a0:Nat)),some (.obj rb),some (.obj σ.length),none,some (.obj s1.length),none,none,none,none,none,none,none,none,none] s2=some (.next,lc9 a0 scr rb rk s1.length v4 v6,s3):=(Xj it).trans e3
 exact ⟨D,s1.length,s3,_,Zc r0 (Zc r1 (Zv r2)),rfl,rfl,h4,h2,hold rb _ (by exact ln3 [(.lt .v0 .v2),(.eq .v1 (.a .v2 .k1))] (.no (.eq .v0 .v1)) (.d 101101) rfl hrbl hs1) hrb2,Zj1 fun n o h=>hold n o (by have:=(List.getElem?_eq_some_iff.mp h).1;lia) (e2▸Zj (e1▸Zj h))⟩
theorem Znr {s3:H}{rd:Nat}{D:List Dd}(h2:s3[rd]?=some (.list (D.map ddV)))(n:Nat)(hn:n≤1000):Wg s3 (.obj rd) .none (.int (n:Int)) .none=some (.obj s3.length,s3++[.list ((D.take n).map ddV)]):=by
 unfold Wg
 rw[Zs h2]
 show (Xo (D.map ddV) .none (.int (n:Int)) .none).bind (Yu s3)=_
 have:Xo (D.map ddV) .none (.int (n:Int)) .none=some ((D.take n).map ddV):=by
  show some (((D.map ddV).take (Z5 (n:Int) (D.map ddV).length)).drop 0)=_
  rw[List.drop_zero]
  unfold Z5
  rw[if_neg (by exact ln1 [] (.no (.zlt (.n .v0) .k0)) (.d 11) rfl),Int.toNat_natCast,List.length_map,← List.map_take]
  congr 2
  rw[List.take_eq_take_iff];exact ln4 [(.mi .v0 .v1 .v2),(.mi .v1 .v3 .v2)] (.eq .v0 .v1) (.s (.s (.s (.d 11001) (.d 11001)) (.s (.d 1100111) (.d 1100101))) (.s (.s (.d 1101) (.d 1101)) (.s (.d 1111) (.d 1111)))) rfl (Yc _ _) (Yc _ _)
 rw[this]
 exact Jv (by rw[List.length_map,List.length_take];exact Nat.le_trans (Nat.min_le_left _ _) (Nat.le_trans hn (by decide))) s3
set_option tactic.hygienic true in
theorem Qr {x:Y}{f:L→H→Y}{ℓ1:L}(h:Qe x f=some (.next,ℓ1,σ1)):∃ℓ0 σ0,x=some (.next,ℓ0,σ0)∧f ℓ0 σ0=some (.next,ℓ1,σ1):=by
 cases x with
 | none=>exact nn h
 | some z=>
  refine byC fun hX=>?_;obtain ⟨g,l,s⟩:=z;refine hX ?_;clear hX
  cases g with
  | next=>exact ⟨l,s,rfl,h⟩
  | _=>cases h
set_option tactic.hygienic true in
theorem Ztl {C:Cl}{a:St}{b:St}{c:St}{r:Ss}{ℓ1:L}{y:Y}(h:execs C (.cons a (.cons b (.cons c .nil))) ℓ σ=some (.next,ℓ1,σ1))(hr:execs C r ℓ1 σ1=y):execs C (.cons a (.cons b (.cons c r))) ℓ σ=y:=by
 refine Jz (fun la sa ea ha=>?_) (Qr (show Qe (exec C a ℓ σ) _=_ from h))
 refine Jz (fun lb sb eb hb=>?_) (Qr (show Qe (exec C b la sa) _=_ from ha))
 refine Jz (fun lc sc ec hc=>?_) (Qr (show Qe (exec C c lb sb) _=_ from hb))
 refine rAA (fun u_ h1 h2=>?_) (pJ3 (show some (Fl.next,lc,sc)=some (Fl.next,ℓ1,σ1) from hc))
 subst h1;subst h2
 exact Zc ea (Zc eb (Zc ec hr))
end
theorem Zp2 {S S':List T3}(h:∀x,x∈S↔x∈S')(d:Dd):∀x,x∈nxt S d↔x∈nxt S' d:=by
 intro x
 unfold nxt
 split
 ·split
  ·rw[List.mem_append,List.mem_append,h x]
  ·rw[List.mem_filter,List.mem_filter,h x]
 ·exact h x
theorem Cons.congr:∀{D:List Dd}{S S':List T3},(∀x,x∈S↔x∈S')→Cons S D→Cons S' D
 | [],_,_,_,_=>trivial
 | d::D,S,S',h,c=>by
  refine ⟨c.1,?_,Cons.congr (Zp2 h d) c.2.2⟩
  have e:decide (d.x∈S')=decide (d.x∈S):=decide_eq_decide.mpr (h d.x).symm
  rw[e];exact c.2.1
section
variable {pg:Pg}
structure Std (σ:H)(t:Tr)(m:Int)(rk:Nat):Prop where
 wd:Wd 1 0 σ t m
 srt:Srt3 t.tl
 avl:t.avl
 num:m=t.sz
 kept:σ[rk]?=some (.list (t.tl.map T3.v))
 k0:rk≠0
 ok:∀x∈t.tl,okT x
theorem Std.app {τ:H}{t:Tr}{m:Int}{rk:Nat}(h:Std σ t m rk):Std (σ++τ) t m rk:=⟨h.wd.app,h.srt,h.avl,h.num,Zj h.kept,h.k0,h.ok⟩
theorem Ztm {d:Dd}{t t':Tr}(hs:Srt3 t.tl)(hs':Srt3 t'.tl)(hd:d.ok=(if d.p then !decide (d.x∈t.tl) else decide (d.x∈t.tl)))(hm:∀y,y∈t'.tl↔y∈nxt t.tl d):beh t.tl d=t'.tl:=by
 refine rA (fun g1 g2=>?_) (Ztg hs (d:=d) (fun hp ho=>by rw[hp,ho] at hd;simpa using hd.symm))
 exact Srt3.eq g1 hs' fun y=>(g2 y).trans (hm y).symm
theorem Zp3 (P:PWd pg)(h45:pg.fn 45=some ⟨[0,1],11,B45,.raw⟩)(e:Nat){d:Dd}{D:List Dd}{t:Tr}{m:Int}{rk:Nat}(S:Std σ t m rk)(he:t.sz≤e)(hz:t.sz<1000)(hc:Cons t.tl (d::D)) :
  ∃σ' t' m' r' τ,Zh pg (e+6) 45 [.obj 1,ddV d] σ=some (.ok (.bool true),σ')∧Zh pg (e+6) 39 [.obj rk,ddV d] σ'=some (.ok (.obj r'),σ'++τ)∧Std (σ'++τ) t' m' r'∧t'.sz≤t.sz+1∧Cons t'.tl D∧∀(k:Nat) o,k≠0→σ[k]?=some o→(σ'++τ)[k]?=some o:=by
 revert hc;refine rAA fun c1 c2 c3=>?_
 refine Ze0 (fun σ' t' m' d1 d2 d3 d4 d5 d6 d7 d8 d9=>?_) (Zvz P h45 e c1 S.wd S.srt he hz c2)
 refine rEE (fun r' τ hbe=>?_) (Zth P (e+5) (d:=d) S.srt (d4 rk _ S.k0 S.kept) (by rw[Tr.sz_tl];exact ln1 [(.lt .v0 (.k 1000))] (.le .v0 (.k 1000)) (.d 111) rfl hz))
 refine rAA (fun b1 b2 b3=>?_) (hbe.resolve_right S.k0)
 rw[Ztm S.srt d5 c2 d6] at b2
 exact ⟨σ',t',m',r',τ,d1,b1,⟨d2.app,d5,d8 S.avl,d9 S.num,b2,b3,fun x hx=>Znp S.ok c1 x ((d6 x).1 hx)⟩,d7,c3.congr (fun y=>(d6 y).symm),fun k o hk h=>Zj (d4 k o hk h)⟩
theorem Zp4 {rk:Nat}(hw:Wd 1 0 σ .nil 0)(hr:σ[rk]?=some (.list []))(h0:rk≠0):Std σ .nil 0 rk:=⟨hw,List.Pairwise.nil,trivial,rfl,hr,h0,fun x hx=>(nomatch hx)⟩
end
structure Rw where
 x:T3
 d:Int
 h:Int
 c:Int
noncomputable def Rw.v (r:Rw):V:=.tup [r.x.v,.int r.d,.int r.h,.int r.c]
noncomputable def Tr.rows:Int→Tr→List Rw
 | _,.nil=>[]
 | d,.node x l r=>l.rows (d+1)++⟨x,d,1+mx l.ht r.ht,(Tr.node x l r).rc⟩::r.rows (d+1)
theorem Tr.rows_len:∀(t:Tr) (d:Int),(t.rows d).length=t.sz
 | .nil,_=>rfl
 | .node x l r,d=>by simp only[Tr.rows,Tr.sz,List.length_append,List.length_cons,Tr.rows_len l,Tr.rows_len r];exact ln2 [] (.eq (.a .v0 (.a .v1 .k1)) (.a (.a .v0 .v1) .k1)) (.s (.d 11) (.d 11)) rfl
theorem Tr.rows_x:∀(t:Tr) (d:Int),(t.rows d).map Rw.x=t.tl
 | .nil,_=>rfl
 | .node x l r,d=>by simp only[Tr.rows,Tr.tl,List.map_append,List.map_cons,Tr.rows_x l,Tr.rows_x r]
theorem Zes (n:Nat):∀l:List Rw,belows n (l.map Rw.v)=true
 | []=>rfl
 | w::r=>by simp only[List.map_cons,belows,Zes n r,Bool.and_true];rfl
noncomputable def Zv0:St:=(.ife (.cmp .v0 (.one .is (.lit .none))) (.cons (.ret .v2) .nil) .nil)
noncomputable def Zv1:St:=(.expr (.call 14 (.cons (.idx .v0 (.i 1)) (.cons (.bin .add .v1 (.i 1)) (.cons .v2 .nil)))))
noncomputable def Zv2:St:=(.expr (.mth .append .v2 (.cons (.tup (.cons (.idx .v0 (.i 0)) (.cons .v1 (.cons (.idx .v0 (.i 3)) (.cons (.idx .v0 (.i 4)) .nil))))) .nil)))
noncomputable def Zv3:St:=(.ret (.call 14 (.cons (.idx .v0 (.i 2)) (.cons (.bin .add .v1 (.i 1)) (.cons .v2 .nil)))))
noncomputable def B14:Ss:=.cons Zv0 <| .cons Zv1 <| .cons Zv2 <| .cons Zv3 <| .nil
noncomputable def Zv4:St:=(.ret (.call 14 (.cons (.attr .v0 0) (.cons (.i 0) (.cons (.lst .nil) .nil)))))
noncomputable def B84:Ss:=.cons Zv4 <| .nil
noncomputable def Zv5:St:=(.ret (.comp (.idx .v2 (.i 0)) 2 (.ex (.ucall 14 .v0 .nil)) .nil))
noncomputable def B74:Ss:=.cons Zv5 <| .nil
section
variable {pg:Pg}
theorem Zbv (h14:pg.fn 14=some ⟨[0,1,2],11,B14,.raw⟩)(m:Nat):∀(t:Tr) (d:Nat) (k:Int) (σ:H) (acc:List V),t.sz≤d→σ[m]?=some (.list acc)→acc.length+t.sz<Zl→Zh pg (d+1) 14 [t.v,.int k,.obj m] σ=some (.ok (.obj m),σ.set m (.list (acc++(t.rows k).map Rw.v)))
 | .nil,d,k,σ,acc,_,hm,_=>by
  have e:σ.set m (.list (acc++((Tr.nil).rows k).map Rw.v))=σ:=by
   refine byC fun hX=>?_;obtain ⟨h1,h2⟩:=List.getElem?_eq_some_iff.mp hm;refine hX ?_;clear hX
   rw[show acc++((Tr.nil).rows k).map Rw.v=acc by simp[Tr.rows],← h2,List.set_getElem_self]
  rw[e]
  exact Wo h14 rfl (Zbt (Zp (Z7 (Zk (Zb rfl) Zf (Zdw .nil σ)) (Zp (Z1 (Zb rfl))))))
 | .node x l r,0,k,σ,acc,h,_,_=>absurd h (by simp[Tr.sz])
 | .node x l r,d+1,k,σ,acc,h,hm,hl=>by
  have hsz:l.sz+r.sz+1=(Tr.node x l r).sz:=rfl
  have hmlt:=(List.getElem?_eq_some_iff.mp hm).1
  have e1:=Zbv h14 m l d (k+1) σ acc (by exact ln4 [(.le .v2 (.a .v1 .k1)),(.eq (.a (.a .v0 .v3) .k1) .v2)] (.le .v0 .v1) (.d 1111) rfl h hsz) hm (by exact ln5 [(.lt (.a .v0 .v3) .v2),(.eq (.a (.a .v1 .v4) .k1) .v3)] (.lt (.a .v0 .v1) .v2) (.d 1111) rfl hl hsz)
  have hll:=l.rows_len (k+1)
  generalize e2:σ.set m (.list (acc++(l.rows (k+1)).map Rw.v))=s1 at e1
  have hq:s1[m]?=some (.list (acc++(l.rows (k+1)).map Rw.v)):=e2▸List.getElem?_set_self hmlt
  have hmlt1:=(List.getElem?_eq_some_iff.mp hq).1
  generalize hw:(⟨x,k,1+mx l.ht r.ht,(Tr.node x l r).rc⟩ : Rw)=w
  have happ:W3 .append (.obj m) [w.v] s1=some (.none,s1.set m (.list (acc++(l.rows (k+1)).map Rw.v++[w.v]))):=by
   have hlt:(acc++(l.rows (k+1)).map Rw.v).length<Zl:=by rw[List.length_append,List.length_map,hll];exact ln5 [(.lt (.a .v0 .v3) .v2),(.eq (.a (.a .v1 .v4) .k1) .v3)] (.lt (.a .v0 .v1) .v2) (.d 1111) rfl hl hsz
   simp only[W3,X9,Option.bind_some,Zs hq,Zlj,Xh,if_pos hlt,Yi]
  have e3:=Zbv h14 m r d (k+1) (s1.set m (.list (acc++(l.rows (k+1)).map Rw.v++[w.v]))) (acc++(l.rows (k+1)).map Rw.v++[w.v]) (by exact ln4 [(.le .v2 (.a .v1 .k1)),(.eq (.a (.a .v3 .v0) .k1) .v2)] (.le .v0 .v1) (.d 1111) rfl h hsz) (List.getElem?_set_self hmlt1) (by rw[List.length_append,List.length_append,List.length_map,hll,List.length_singleton];exact ln5 [(.lt (.a .v0 .v4) .v3),(.eq (.a (.a .v1 .v2) .k1) .v4)] (.lt (.a (.a (.a .v0 .v1) .k1) .v2) .v3) (.d 1111) rfl hl hsz)
  rw[← e2] at e3
  simp only[List.set_set] at e3
  have ee:acc++(l.rows (k+1)).map Rw.v++[w.v]++(r.rows (k+1)).map Rw.v=acc++((Tr.node x l r).rows k).map Rw.v:=by
   rw[Tr.rows,hw];simp
  rw[ee] at e3
  have e2':s1.set m (.list (acc++(l.rows (k+1)).map Rw.v++[w.v]))=σ.set m (.list (acc++(l.rows (k+1)).map Rw.v++[w.v])):=by rw[← e2,List.set_set]
  rw[e2'] at happ
  subst hw
  refine Wo h14 rfl (Zbt (ℓ':=[some (Tr.node x l r).v,some (.int k),some (.obj m),none,none,none,none,none,none,none,none]) ?_)
  exact Zc (Zq (Zk (Zb rfl) Zf (Zdw (.node x l r) σ)) Zn) (Zc (Y7 (Zo (Za (Zm rfl rfl) (Za (Zi (Zb rfl) Zf (Z2 _ _ _)) (Za (Zb rfl) Ze))) e1)) (Zc (Y7 (Xd (Zb rfl) (Zs hq) (Za (Y4 (Za (Zm rfl rfl) (Za (Zb rfl) (Za (Zm rfl rfl) (Za (Zm rfl rfl) Ze)))) rfl) Ze) happ)) (Zp (Z1 (Zo (Za (Zm rfl rfl) (Za (Zi (Zb rfl) Zf (Z2 _ _ _)) (Za (Zb rfl) Ze))) e3)))))
theorem Zns (h14:pg.fn 14=some ⟨[0,1,2],11,B14,.raw⟩)(h84:pg.fn 84=some ⟨[0],9,B84,.fresh⟩)(d:Nat){w n:Nat}{t:Tr}{m:Int}(hw:Wd w n σ t m)(hd:t.sz≤d)(hsz:t.sz<1000):Zh pg (d+2) 84 [.obj w] σ=some (.ok (.obj σ.length),σ++[.list ((t.rows 0).map Rw.v)]):=by
 have e:=Zbv h14 σ.length t d 0 (σ++[.list []]) [] hd (gl σ _) (by rw[List.length_nil,Nat.zero_add];exact Nat.lt_trans hsz (by decide))
 have e2:(σ++[O.list []]).set σ.length (O.list ([]++(t.rows 0).map Rw.v))=σ++[O.list ((t.rows 0).map Rw.v)]:=by simp
 rw[e2] at e
 exact Jy h84 rfl (Zp (Z1 (Zo (Za (Zdf (Zb rfl) hw.ns rfl) (Za Zf (Za (Uj Ze rfl) Ze))) e))) (Nat.le_refl _) (Zes _ _) (gl σ _)
theorem Zbw (h14:pg.fn 14=some ⟨[0,1,2],11,B14,.raw⟩)(h84:pg.fn 84=some ⟨[0],9,B84,.fresh⟩)(h74:pg.fn 74=some ⟨[0],9,B74,.fresh⟩)(m14:pg.mt 0 14=some 84)(d:Nat){w n:Nat}{t:Tr}{m:Int}(hw:Wd w n σ t m)(hd:t.sz≤d)(hsz:t.sz<1000):Zh pg (d+3) 74 [.obj w] σ=some (.ok (.obj σ.length),σ++[.list (t.tl.map T3.v)]):=by
 have hb:=Zns h14 h84 d hw hd hsz
 have c:=Yx (C:=⟨pg,Zh pg (d+2)⟩) (elt:=Ex.idx (Ex.var 2) (Ex.lit (V.int 0))) (tg:=2) (it:=It.ex (Ex.ucall 14 (Ex.var 0) Es.nil)) (ifs:=Es.nil) (ℓ:=[some (.obj w),none,none,none,none,none,none,none,none]) Rw.v (fun w:Rw=>some w.x.v) (Jc (Jt (Zb rfl) ((hw.mt 14).trans m14) Ze hb) (gl σ _)) (gl σ _) (Nat.le_of_ble_eq_true rfl) (by rw[Tr.rows_len];exact Nat.le_trans (Nat.le_of_lt hsz) (by decide)) fun y u_=>Ztb (α:=Unit) Zdg (Zm rfl rfl)
 rw[List.filterMap_eq_map',show ((t.rows 0).map fun w:Rw=>w.x.v)=t.tl.map T3.v by rw[← Tr.rows_x t 0,List.map_map];rfl] at c
 exact Jy (l:=t.tl.map T3.v) (t:=[O.list ((t.rows 0).map Rw.v),O.list (t.tl.map T3.v)]) h74 rfl (by rw[show σ++[O.list ((t.rows 0).map Rw.v),O.list (t.tl.map T3.v)]=σ++[O.list ((t.rows 0).map Rw.v)]++[O.list (t.tl.map T3.v)] by simp];exact Zp (Z1 c)) (by simp) (Jd _ _) (by simp)
end
noncomputable def Zx8:St:=(.expr (.call 2 (.cons .v1 (.cons .v2 .nil))))
noncomputable def Zx9:St:=(.asg (.one 3) (.lst .nil))
noncomputable def Zya:St:=(.asg (.one 4) .v1)
noncomputable def Ztn:St:=(.for_ (.one 5) (.ex .v0) (.cons (.ife (.cmp (.idx .v5 (.i 0)) (.one .gt .v2)) (.cons .brk .nil) .nil) (.cons (.ife (.cmp (.idx .v5 (.i 1)) (.one .ge .v4)) (.cons (.ife (.cmp (.idx .v5 (.i 0)) (.one .gt .v4)) (.cons (.expr (.mth .append .v3 (.cons (.tup (.cons .v4 (.cons (.bin .sub (.idx .v5 (.i 0)) (.i 1)) .nil))) .nil))) .nil) .nil) (.cons (.asg (.one 4) (.bin .add (.idx .v5 (.i 1)) (.i 1))) .nil)) .nil) .nil)))
noncomputable def Zv6:St:=(.ife (.cmp .v4 (.one .le .v2)) (.cons (.expr (.mth .append .v3 (.cons (.tup (.cons .v4 (.cons .v2 .nil))) .nil))) .nil) .nil)
noncomputable def Zv7:St:=(.ret .v3)
noncomputable def B4:Ss:=.cons Zx8 <| .cons Zx9 <| .cons Zya <| .cons Ztn <| .cons Zv6 <| .cons Zv7 <| .nil
noncomputable def Zv8:St:=(.asg (.one 3) (.lst .nil))
noncomputable def Znt:St:=(.for_ (.one 4) (.ex .v0) (.cons (.ife (.and (.cmp (.idx .v4 (.i 0)) (.one .gt .v1)) (.cmp .v1 (.one .le .v2))) (.cons (.expr (.mth .append .v3 (.cons (.tup (.cons .v1 (.cons (.blt .min (.cons (.bin .sub (.idx .v4 (.i 0)) (.i 1)) (.cons .v2 .nil))) .nil))) .nil))) .nil) .nil) (.cons (.asg (.one 1) (.blt .max (.cons .v1 (.cons (.bin .add (.idx .v4 (.i 1)) (.i 1)) .nil)))) .nil)))
noncomputable def Zq8:St:=(.ife (.cmp .v1 (.one .le .v2)) (.cons (.expr (.mth .append .v3 (.cons (.tup (.cons .v1 (.cons .v2 .nil))) .nil))) .nil) .nil)
noncomputable def Zq9:St:=(.ret .v3)
noncomputable def B54:Ss:=.cons Zv8 <| .cons Znt <| .cons Zq8 <| .cons Zq9 <| .nil
noncomputable def pr (p:Int×Int):List Int:=[p.1,p.2]
noncomputable def prs (l:List (Int×Int)):List V:=Z0 (l.map pr)
theorem Zp5 (l:List (Int×Int)):(prs l).length=l.length:=by simp[prs,Z0]
theorem Znu (l:List (Int×Int))(x y:Int):prs l++[.tup [.int x,.int y]]=prs (l++[(x,y)]):=by simp[prs,Z0,pr]
noncomputable def U1 (hi:Int):List T3→Int→List (Int×Int)→List (Int×Int)
 | [],at_,acc=>if at_≤hi then acc++[(at_,hi)] else acc
 | x::r,at_,acc=>if hi<x.a then (if at_≤hi then acc++[(at_,hi)] else acc) else if at_≤x.b then U1 hi r (x.b+1) (if at_<x.a then acc++[(at_,x.a-1)] else acc) else U1 hi r at_ acc
noncomputable def Qd (hi:Int):List T3→Int→List (Int×Int)→List (Int×Int)
 | [],lo,acc=>if lo≤hi then acc++[(lo,hi)] else acc
 | x::r,lo,acc=>Qd hi r (if lo<x.b+1 then x.b+1 else lo) (if lo<x.a∧lo≤hi then acc++[(lo,if hi<x.a-1 then hi else x.a-1)] else acc)
theorem Zdn (hi:Int):∀(r:List T3) (lo:Int) (acc:List (Int×Int)),hi<lo→Qd hi r lo acc=acc
 | [],lo,acc,h=>by simp only[Qd];rw[if_neg (by exact lz2 [(.zlt .v1 .v0)] (.no (.zle .v0 .v1)) (.d 111) rfl h)]
 | x::r,lo,acc,h=>by
  simp only[Qd]
  rw[if_neg (by exact lz3 [(.zlt .v2 .v0)] (.no (.an (.zlt .v0 .v1) (.zle .v0 .v2))) (.d 1011) rfl h:¬ (lo<x.a∧lo≤hi))]
  exact Zdn hi r _ acc (by split <;> lia)
theorem Zfw (hi:Int):∀(r:List T3) (lo:Int) (acc:List (Int×Int)),(∀x∈r,x.a≤x.b)→U1 hi r lo acc=Qd hi r lo acc
 | [],lo,acc,_=>rfl
 | x::r,lo,acc,h=>by
  have hx:=h x List.mem_cons_self
  have hr:∀y∈r,y.a≤y.b:=fun y hy=>h y (List.mem_cons_of_mem _ hy)
  simp only[U1,Qd]
  by_cases c1:hi<x.a
  ·rw[if_pos c1,Zdn hi r _ _ (by split <;> lia)]
   by_cases c2:lo≤hi
   ·rw[if_pos c2,if_pos (by exact lz3 [(.zlt .v2 .v1),(.zle .v0 .v2)] (.an (.zlt .v0 .v1) (.zle .v0 .v2)) (.s (.d 1111) (.d 1101)) rfl c1 c2)]
    rcases Int.lt_or_le hi (x.a-1) with c3 | c3
    ·rw[if_pos c3]
    ·rw[if_neg (by exact lz2 [(.zle (.s .v1 .k1) .v0)] (.no (.zlt .v0 (.s .v1 .k1))) (.d 111) rfl c3),(by exact lz2 [(.zlt .v1 .v0),(.zle (.s .v0 .k1) .v1)] (.zeq (.s .v0 .k1) .v1) (.s (.d 111) (.d 1101)) rfl c1 c3:x.a-1=hi)]
   ·rw[if_neg c2,if_neg (by exact lz3 [(.no (.zle .v0 .v2))] (.no (.an (.zlt .v0 .v1) (.zle .v0 .v2))) (.d 1011) rfl c2)]
  ·rw[if_neg c1]
   by_cases c2:lo≤x.b
   ·rw[if_pos c2,Zfw hi r _ _ hr,if_pos (by exact lz2 [(.zle .v0 .v1)] (.zlt .v0 (.a .v1 .k1)) (.d 111) rfl c2:lo<x.b+1)]
    by_cases c3:lo<x.a
    ·rw[if_pos c3,if_pos (by exact lz3 [(.no (.zlt .v2 .v1)),(.zlt .v0 .v1)] (.an (.zlt .v0 .v1) (.zle .v0 .v2)) (.s (.d 1101) (.d 1111)) rfl c1 c3),if_neg (by exact lz2 [(.no (.zlt .v0 .v1))] (.no (.zlt .v0 (.s .v1 .k1))) (.d 111) rfl c1)]
    ·rw[if_neg c3,if_neg (by exact lz3 [(.no (.zlt .v0 .v1))] (.no (.an (.zlt .v0 .v1) (.zle .v0 .v2))) (.d 1101) rfl c3)]
   ·rw[if_neg c2,Zfw hi r _ _ hr,if_neg (by exact lz2 [(.no (.zle .v0 .v1))] (.no (.zlt .v0 (.a .v1 .k1))) (.d 111) rfl c2),if_neg (by exact lz4 [(.zle .v1 .v3),(.no (.zle .v0 .v3))] (.no (.an (.zlt .v0 .v1) (.zle .v0 .v2))) (.d 11011) rfl hx c2)]
theorem Zcg {acc:List (Int×Int)}(h:acc.length<Zl)(σ:H)(x y:Int):W3 .append (.obj σ.length) [.tup [.int x,.int y]] (σ++[.list (prs acc)])=some (.none,σ++[.list (prs (acc++[(x,y)]))]):=by
 rw[Zhj (by rw[Zp5];exact h),Znu]
set_option tactic.hygienic true in
theorem Znv {pg:Pg}(hF:pg.fn 54=some ⟨[0,1,2],13,B54,.fresh⟩)(d:Nat)(lo hi:Int)(σ:H)(r:Nat)(ts:List T3)(hr:σ[r]?=some (.list (ts.map T3.v)))(hl:ts.length≤1000) :
  Zh pg (d+1) 54 [.obj r,.int lo,.int hi] σ=some (.ok (.obj σ.length),σ++[.list (prs (Qd hi ts lo []))]):=by
 have hk:∀acc,(σ++[O.list acc])[r]?=some (.list (ts.map T3.v)):=fun acc=>Zj hr
 have e1:∃ℓ σ',exec ⟨pg,Zh pg d⟩ Znt [some (.obj r),some (.int lo),some (.int hi),some (.obj σ.length),none,none,none,none,none,none,none,none,none] (σ++[.list (prs [])])=some (.next,ℓ,σ')∧∃lo' acc o,ℓ=[some (.obj r),some (.int lo'),some (.int hi),some (.obj σ.length),o,none,none,none,none,none,none,none,none]∧σ'=σ++[.list (prs acc)]∧acc.length≤1000∧(if lo'≤hi then acc++[(lo',hi)] else acc)=Qd hi ts lo []:=by
  rw[Znt,Xj (Jc (n:=r) (Zb rfl) (hk (prs [])))]
  refine Wv T3.v (fun xs ℓ σ'=>∃lo' acc o,ℓ=[some (.obj r),some (.int lo'),some (.int hi),some (.obj σ.length),o,none,none,none,none,none,none,none,none]∧σ'=σ++[.list (prs acc)]∧acc.length+xs.length≤1000∧Qd hi xs lo' acc=Qd hi ts lo []) _ ?_ ?_ ts _ _ ⟨lo,[],none,rfl,rfl,by simpa using hl,rfl⟩
  ·intro ℓ σ' hX2
   refine byC fun hnX=>?_
   obtain ⟨lo',acc,o,h1,h2,h3,h4⟩:=hX2
   refine hnX ?_
   clear hnX
   exact ⟨lo',acc,o,h1,h2,h3,h4⟩
  ·intro x xs ℓ σ' hX4
   refine byC fun hnX=>?_
   obtain ⟨lo',acc,o,rfl,rfl,h3,h4⟩:=hX4
   refine hnX ?_
   clear hnX
   simp only[List.length_cons] at h3
   have hap:=Zcg (acc:=acc) (by unfold Zl;exact ln2 [(.le (.a .v0 (.a .v1 .k1)) (.k 1000))] (.lt .v0 (.k 1000000)) (.d 111) rfl h3) σ
   have ha:∀σ',Zg ⟨pg,Zh pg d⟩ (Ex.blt Blt.max (Es.cons (Ex.var 1) (Es.cons (Ex.bin Bop.add (Ex.idx (Ex.var 4) (Ex.lit (V.int 1))) (Ex.lit (V.int 1))) Es.nil))) [some (.obj r),some (.int lo'),some (.int hi),some (.obj σ.length),some x.v,none,none,none,none,none,none,none,none] σ'=some (.ok (.int (if lo'<x.b+1 then x.b+1 else lo')),σ'):=fun σ'=>Z6 (Za (Zb rfl) (Za (Zi (Zm rfl (Y2 _ _)) Zf (Z2 _ _ _)) Ze)) rfl
   have h4:Qd hi xs (if lo'<x.b+1 then x.b+1 else lo') (if lo'<x.a∧lo'≤hi then acc++[(lo',if hi<x.a-1 then hi else x.a-1)] else acc)=_:=h4
   refine ⟨by simp,.inl ?_⟩
   by_cases c1:lo'<x.a
   ·by_cases c2:lo'≤hi
    ·rw[if_pos (⟨c1,c2⟩ : lo'<x.a∧lo'≤hi)] at h4
     exact ⟨_,_,Zc (Z7 (U3 (Zk (Zm rfl (Yn _ _)) (Zb rfl) (gtT c1)) (Zk (Zb rfl) (Zb rfl) (leT c2))) (Zv (Y7 (Xd (Zb rfl) (Zs (gl σ _)) (Za (Y4 (Za (Zb rfl) (Za (Z6 (Za (Zi (Zm rfl (Yn _ _)) Zf (Ye _ _ _)) (Za (Zb rfl) Ze)) rfl) Ze)) rfl) Ze) (hap _ _))))) (Zv (Zx (ha _) rfl)),hk _,_,_,_,rfl,rfl,by simp;exact ln2 [(.le (.a .v0 (.a .v1 .k1)) (.k 1000))] (.le (.a (.a .v0 .k1) .v1) (.k 1000)) (.d 111) rfl h3,h4⟩
    ·rw[if_neg (by exact lz3 [(.no (.zle .v0 .v2))] (.no (.an (.zlt .v0 .v1) (.zle .v0 .v2))) (.d 1011) rfl c2:¬ (lo'<x.a∧lo'≤hi))] at h4
     exact ⟨_,_,Zc (Zq (U3 (Zk (Zm rfl (Yn _ _)) (Zb rfl) (gtT c1)) (Zk (Zb rfl) (Zb rfl) (leF c2))) Zn) (Zv (Zx (ha _) rfl)),hk _,_,_,_,rfl,rfl,by exact ln2 [(.le (.a .v0 (.a .v1 .k1)) (.k 1000))] (.le (.a .v0 .v1) (.k 1000)) (.d 111) rfl h3,h4⟩
   ·rw[if_neg (by exact lz3 [(.no (.zlt .v0 .v1))] (.no (.an (.zlt .v0 .v1) (.zle .v0 .v2))) (.d 1101) rfl c1:¬ (lo'<x.a∧lo'≤hi))] at h4
    exact ⟨_,_,Zc (Zq (U4 (Zk (Zm rfl (Yn _ _)) (Zb rfl) (gtF c1))) Zn) (Zv (Zx (ha _) rfl)),hk _,_,_,_,rfl,rfl,by exact ln2 [(.le (.a .v0 (.a .v1 .k1)) (.k 1000))] (.le (.a .v0 .v1) (.k 1000)) (.d 111) rfl h3,h4⟩
 refine byC fun hX=>?_;obtain ⟨_,_,e1,lo',acc,o,rfl,rfl,h3,h4⟩:=e1;refine hX ?_;clear hX
 have hap:=Zcg (acc:=acc) (by unfold Zl;exact ln1 [(.le .v0 (.k 1000))] (.lt .v0 (.k 1000000)) (.d 111) rfl h3) σ
 have hend:execs ⟨pg,Zh pg d⟩ (.cons Zq8 (.cons Zq9 .nil)) [some (.obj r),some (.int lo'),some (.int hi),some (.obj σ.length),o,none,none,none,none,none,none,none,none] (σ++[.list (prs acc)])=some (.ret (.obj σ.length),[some (.obj r),some (.int lo'),some (.int hi),some (.obj σ.length),o,none,none,none,none,none,none,none,none],σ++[.list (prs (Qd hi ts lo []))]):=by
  rw[← h4]
  by_cases c:lo'≤hi
  ·rw[if_pos c];exact Zc (Z7 (Zk (Zb rfl) (Zb rfl) (leT c)) (Zv (Y7 (Xd (Zb rfl) (Zs (gl σ _)) (Za (Y4 (Za (Zb rfl) (Za (Zb rfl) Ze)) rfl) Ze) (hap _ _))))) (Zp (Z1 (Zb rfl)))
  ·rw[if_neg c];exact Zc (Zq (Zk (Zb rfl) (Zb rfl) (leF c)) Zn) (Zp (Z1 (Zb rfl)))
 exact Jy hF rfl (Zc (Zx (Uj Ze rfl) rfl) (Zc e1 hend)) (Nat.le_refl _) (Ww _ _) (by simp[prs])
set_option tactic.hygienic true in
theorem Zp6 {pg:Pg}(h1:pg.fn 1=some ⟨[0],9,B1,.pure⟩)(h2:pg.fn 2=some ⟨[0,1],10,B2,.pure⟩)(hF:pg.fn 4=some ⟨[0,1,2],14,B4,.fresh⟩)(d:Nat)(lo hi:Int)(hl1 : -10^60<lo)(hle:lo≤hi)(hh:hi<10^60)(σ:H)(r:Nat)(ts:List T3)(hr:σ[r]?=some (.list (ts.map T3.v)))(hl:ts.length≤1000) :
  Zh pg (d+3) 4 [.obj r,.int lo,.int hi] σ=some (.ok (.obj σ.length),σ++[.list (prs (U1 hi ts lo []))]):=by
 have hk:∀acc,(σ++[O.list acc])[r]?=some (.list (ts.map T3.v)):=fun acc=>Zj hr
 have e1:∃ℓ σ',exec ⟨pg,Zh pg (d+2)⟩ Ztn [some (.obj r),some (.int lo),some (.int hi),some (.obj σ.length),some (.int lo),none,none,none,none,none,none,none,none,none] (σ++[.list (prs [])])=some (.next,ℓ,σ')∧∃lo' acc o,ℓ=[some (.obj r),some (.int lo),some (.int hi),some (.obj σ.length),some (.int lo'),o,none,none,none,none,none,none,none,none]∧σ'=σ++[.list (prs acc)]∧acc.length≤1000∧(if lo'≤hi then acc++[(lo',hi)] else acc)=U1 hi ts lo []:=by
  rw[Ztn,Xj (Jc (n:=r) (Zb rfl) (hk (prs [])))]
  refine Wv T3.v (fun xs ℓ σ'=>∃lo' acc o,ℓ=[some (.obj r),some (.int lo),some (.int hi),some (.obj σ.length),some (.int lo'),o,none,none,none,none,none,none,none,none]∧σ'=σ++[.list (prs acc)]∧acc.length+xs.length≤1000∧U1 hi xs lo' acc=U1 hi ts lo []) _ ?_ ?_ ts _ _ ⟨lo,[],none,rfl,rfl,by simpa using hl,rfl⟩
  ·intro ℓ σ' hX2
   refine byC fun hnX=>?_
   obtain ⟨lo',acc,o,h1,h2,h3,h4⟩:=hX2
   refine hnX ?_
   clear hnX
   exact ⟨lo',acc,o,h1,h2,h3,h4⟩
  ·intro x xs ℓ σ' hX4
   refine byC fun hnX=>?_
   obtain ⟨lo',acc,o,rfl,rfl,h3,h4⟩:=hX4
   refine hnX ?_
   clear hnX
   simp only[List.length_cons] at h3
   have hap:=Zcg (acc:=acc) (by unfold Zl;exact ln2 [(.le (.a .v0 (.a .v1 .k1)) (.k 1000))] (.lt .v0 (.k 1000000)) (.d 111) rfl h3) σ
   have h4:(if hi<x.a then (if lo'≤hi then acc++[(lo',hi)] else acc) else if lo'≤x.b then U1 hi xs (x.b+1) (if lo'<x.a then acc++[(lo',x.a-1)] else acc) else U1 hi xs lo' acc)=_:=h4
   have hb:∀σ',Zg ⟨pg,Zh pg (d+2)⟩ (Ex.bin Bop.add (Ex.idx (Ex.var 5) (Ex.lit (V.int 1))) (Ex.lit (V.int 1))) [some (.obj r),some (.int lo),some (.int hi),some (.obj σ.length),some (.int lo'),some x.v,none,none,none,none,none,none,none,none] σ'=some (.ok (.int (x.b+1)),σ'):=fun σ'=>Zi (Zm rfl (Y2 _ _)) Zf (Z2 _ _ _)
   refine ⟨by simp,?_⟩
   by_cases c1:hi<x.a
   ·rw[if_pos c1] at h4
    exact .inr ⟨_,_,Zfq (Z7 (Zk (Zm rfl (Yn _ _)) (Zb rfl) (gtT c1)) (Zfq Zql)),_,_,_,rfl,rfl,by exact ln2 [(.le (.a .v0 (.a .v1 .k1)) (.k 1000))] (.le .v0 (.k 1000)) (.d 111) rfl h3,h4⟩
   ·rw[if_neg c1] at h4
    refine .inl ?_
    by_cases c2:lo'≤x.b
    ·rw[if_pos c2] at h4
     by_cases c3:lo'<x.a
     ·rw[if_pos c3] at h4
      exact ⟨_,_,Zc (Zq (Zk (Zm rfl (Yn _ _)) (Zb rfl) (gtF c1)) Zn) (Zv (Z7 (Zk (Zm rfl (Y2 _ _)) (Zb rfl) (geT c2)) (Zc (Z7 (Zk (Zm rfl (Yn _ _)) (Zb rfl) (gtT c3)) (Zv (Y7 (Xd (Zb rfl) (Zs (gl σ _)) (Za (Y4 (Za (Zb rfl) (Za (Zi (Zm rfl (Yn _ _)) Zf (Ye _ _ _)) Ze)) rfl) Ze) (hap _ _))))) (Zv (Zx (hb _) rfl))))),hk _,_,_,_,rfl,rfl,by simp;exact ln2 [(.le (.a .v0 (.a .v1 .k1)) (.k 1000))] (.le (.a (.a .v0 .k1) .v1) (.k 1000)) (.d 111) rfl h3,h4⟩
     ·rw[if_neg c3] at h4
      exact ⟨_,_,Zc (Zq (Zk (Zm rfl (Yn _ _)) (Zb rfl) (gtF c1)) Zn) (Zv (Z7 (Zk (Zm rfl (Y2 _ _)) (Zb rfl) (geT c2)) (Zc (Zq (Zk (Zm rfl (Yn _ _)) (Zb rfl) (gtF c3)) Zn) (Zv (Zx (hb _) rfl))))),hk _,_,_,_,rfl,rfl,by exact ln2 [(.le (.a .v0 (.a .v1 .k1)) (.k 1000))] (.le (.a .v0 .v1) (.k 1000)) (.d 111) rfl h3,h4⟩
    ·rw[if_neg c2] at h4
     exact ⟨_,_,Zc (Zq (Zk (Zm rfl (Yn _ _)) (Zb rfl) (gtF c1)) Zn) (Zv (Zq (Zk (Zm rfl (Y2 _ _)) (Zb rfl) (geF c2)) Zn)),hk _,_,_,_,rfl,rfl,by exact ln2 [(.le (.a .v0 (.a .v1 .k1)) (.k 1000))] (.le (.a .v0 .v1) (.k 1000)) (.d 111) rfl h3,h4⟩
 refine byC fun hX=>?_;obtain ⟨_,_,e1,lo',acc,o,rfl,rfl,h3,h4⟩:=e1;refine hX ?_;clear hX
 have hap:=Zcg (acc:=acc) (by unfold Zl;exact ln1 [(.le .v0 (.k 1000))] (.lt .v0 (.k 1000000)) (.d 111) rfl h3) σ
 have hend:execs ⟨pg,Zh pg (d+2)⟩ (.cons Zv6 (.cons Zv7 .nil)) [some (.obj r),some (.int lo),some (.int hi),some (.obj σ.length),some (.int lo'),o,none,none,none,none,none,none,none,none] (σ++[.list (prs acc)])=some (.ret (.obj σ.length),[some (.obj r),some (.int lo),some (.int hi),some (.obj σ.length),some (.int lo'),o,none,none,none,none,none,none,none,none],σ++[.list (prs (U1 hi ts lo []))]):=by
  rw[← h4]
  by_cases c:lo'≤hi
  ·rw[if_pos c];exact Zc (Z7 (Zk (Zb rfl) (Zb rfl) (leT c)) (Zv (Y7 (Xd (Zb rfl) (Zs (gl σ _)) (Za (Y4 (Za (Zb rfl) (Za (Zb rfl) Ze)) rfl) Ze) (hap _ _))))) (Zp (Z1 (Zb rfl)))
  ·rw[if_neg c];exact Zc (Zq (Zk (Zb rfl) (Zb rfl) (leF c)) Zn) (Zp (Z1 (Zb rfl)))
 exact Jy hF rfl (Zc (Y7 (Zo (Za (Zb rfl) (Za (Zb rfl) Ze)) (Zfs h1 h2 d lo hi hl1 hle hh σ))) (Zc (Zx (Uj Ze rfl) rfl) (Zc (Zx (Zb rfl) rfl) (Zc e1 hend)))) (Nat.le_refl _) (Ww _ _) (by simp[prs])
noncomputable def Zyb:St:=(.asg (.one 1) (.lst .nil))
noncomputable def Zto:St:=(.for_ (.one 2) (.ex .v0) (.cons (.ife (.and (.cmp (.blt .len (.cons .v1 .nil)) (.one .gt (.i 0))) (.cmp (.idx .v2 (.i 0)) (.one .le (.idx (.idx .v1 (.neg (.i 1))) (.i 1))))) (.cons (.asg (.one 3) (.mth .pop .v1 .nil)) (.cons (.expr (.mth .append .v1 (.cons (.tup (.cons (.idx .v3 (.i 0)) (.cons (.blt .max (.cons (.idx .v3 (.i 1)) (.cons (.idx .v2 (.i 1)) .nil))) (.cons (.bin .add (.idx .v3 (.i 2)) (.i 1)) .nil)))) .nil))) .nil)) (.cons (.expr (.mth .append .v1 (.cons (.tup (.cons (.idx .v2 (.i 0)) (.cons (.idx .v2 (.i 1)) (.cons (.i 1) .nil)))) .nil))) .nil)) .nil))
noncomputable def Zyc:St:=(.ret .v1)
noncomputable def B5:Ss:=.cons Zyb <| .cons Zto <| .cons Zyc <| .nil
noncomputable def Zdy:List T3→T3→List T3
 | [],c=>[c]
 | x::r,c=>if x.a≤c.b then Zdy r ⟨c.a,max c.b x.b,c.c+1⟩ else c::Zdy r ⟨x.a,x.b,1⟩
noncomputable def clumps:List T3→List T3
 | []=>[]
 | x::r=>Zdy r ⟨x.a,x.b,1⟩
structure Grp (g:List T3)(c:T3):Prop where
 ne:g≠[]
 cnt:c.c=g.length
 lo:∀x∈g,c.a≤x.a
 hi:∀x∈g,x.b≤c.b
 lo1:∃x∈g,x.a=c.a
 hi1:∃x∈g,x.b=c.b
 chain:∀x∈g,x.b<c.b→∃y∈g,y.a≤x.b∧x.b<y.b
inductive Cls:List T3→List T3→Prop
 | nil:Cls [] []
 | cons {g row:List T3}{c:T3}{cs:List T3}:Grp g c→(∀x∈row,c.b<x.a)→(∀c'∈cs,c.b<c'.a)→Cls row cs→Cls (g++row) (c::cs)
theorem Grp.snoc {g:List T3}{c x:T3}(h:Grp g c)(hx:x.a≤c.b)(ho:x.a≤x.b)(hs:∀y∈g,y.a≤x.a):Grp (g++[x]) ⟨c.a,max c.b x.b,c.c+1⟩:=by
 refine byC fun hX=>?_;obtain ⟨m,hm,hma⟩:=h.lo1;refine hX ?_;clear hX
 refine byC fun hX=>?_;obtain ⟨n,hn,hnb⟩:=h.hi1;refine hX ?_;clear hX
 refine ⟨by simp,by simp[h.cnt],?_,?_,⟨m,List.mem_append_left _ hm,hma⟩,?_,?_⟩
 ·intro y hy
  rcases List.mem_append.mp hy with hy | hy
  ·exact h.lo y hy
  ·rw[List.mem_singleton.mp hy];have:=hs m hm;simp only;lia
 ·intro y hy
  rcases List.mem_append.mp hy with hy | hy
  ·have:=h.hi y hy;simp only;lia
  ·rw[List.mem_singleton.mp hy];simp only;lia
 ·simp only
  rcases Int.lt_or_le c.b x.b with h1 | h1
  ·exact ⟨x,by simp,by lia⟩
  ·exact ⟨n,List.mem_append_left _ hn,by lia⟩
 ·intro y hy hlt
  simp only at hlt
  rcases List.mem_append.mp hy with hy | hy
  ·rcases Int.lt_or_le y.b c.b with h1 | h1
   ·refine byC fun hX=>?_;obtain ⟨z,hz,e⟩:=h.chain y hy h1;refine hX ?_;clear hX
    exact ⟨z,List.mem_append_left _ hz,e⟩
   ·have:=h.hi y hy
    exact ⟨x,by simp,by exact lz3 [(.zle .v0 .v2),(.zle .v2 .v1)] (.zle .v0 .v1) (.d 1111) rfl hx h1,by lia⟩
  ·rw[List.mem_singleton.mp hy] at hlt ⊢
   have:=hs n hn
   exact ⟨n,List.mem_append_left _ hn,by exact lz3 [(.zle .v2 .v1),(.zle .v0 .v2)] (.zle .v0 .v1) (.d 1111) rfl ho this,by lia⟩
theorem Grp.one {x:T3}:Grp [x] ⟨x.a,x.b,1⟩:=⟨by simp,rfl,by simp,by simp,⟨x,by simp⟩,⟨x,by simp⟩,by simp⟩
set_option tactic.hygienic true in
theorem Zdo:∀(r g:List T3) (c:T3),Grp g c→(∀x∈g,∀y∈r,x.a≤y.a)→r.Pairwise (fun x y=>x.a≤y.a)→(∀x∈r,x.a≤x.b)→Cls (g++r) (Zdy r c)∧∀c'∈Zdy r c,c.a≤c'.a
 | [],g,c,hg,_,_,_=>by
  refine ⟨.cons hg (by simp) (by simp) .nil,?_⟩
  simp[Zdy]
 | x::r,g,c,hg,h1,h2,h3=>by
  have h2':=List.pairwise_cons.mp h2
  have hx:x∈x::r:=List.mem_cons_self
  simp only[Zdy]
  split
  ·rename_i hle
   have:=Zdo r (g++[x]) _ (hg.snoc hle (h3 x hx) fun y hy=>h1 y hy x hx) (fun y hy z hz=>by
    rcases List.mem_append.mp hy with hy | hy
    ·exact h1 y hy z (List.mem_cons_of_mem _ hz)
    ·rw[List.mem_singleton.mp hy];exact h2'.1 z hz) h2'.2 fun y hy=>h3 y (List.mem_cons_of_mem _ hy)
   rw[List.append_assoc] at this
   exact this
  ·rename_i hle
   obtain ⟨q1,q2⟩:=Zdo r [x] ⟨x.a,x.b,1⟩ Grp.one (fun y hy z hz=>by rw[List.mem_singleton.mp hy];exact h2'.1 z hz) h2'.2 fun y hy=>h3 y (List.mem_cons_of_mem _ hy)
   simp only at q2
   refine byC fun hX=>?_;obtain ⟨m,hm,hma⟩:=hg.lo1;refine hX ?_;clear hX
   have hmx:=h1 m hm x hx
   refine ⟨.cons hg ?_ ?_ q1,?_⟩
   ·intro y hy
    rcases List.mem_cons.mp hy with rfl | hy
    ·exact lz2 [(.no (.zle .v1 .v0))] (.zlt .v0 .v1) (.d 111) rfl hle
    ·have:=h2'.1 y hy;lia
   ·intro c' hc';have:=q2 c' hc';lia
   ·intro c' hc'
    rcases List.mem_cons.mp hc' with rfl | hc'
    ·exact Int.le_refl _
    ·have:=q2 c' hc';lia
theorem Zin (ts:List T3)(h1:ts.Pairwise (fun x y=>x.a≤y.a))(h2:∀x∈ts,x.a≤x.b):Cls ts (clumps ts):=by
 cases ts with
 | nil=>exact .nil
 | cons x r=>
  have h1':=List.pairwise_cons.mp h1
  exact (Zdo r [x] ⟨x.a,x.b,1⟩ Grp.one (fun y hy z hz=>by rw[List.mem_singleton.mp hy];exact h1'.1 z hz) h1'.2 fun y hy=>h2 y (List.mem_cons_of_mem _ hy)).1
noncomputable def inC (c x:T3):Bool:=decide (c.a≤x.a)&&decide (x.b≤c.b)
theorem Cls.own {row cs:List T3}(h:Cls row cs):(∀x∈row,x.a≤x.b)→∀c∈cs,Grp (row.filter (inC c)) c:=by
 induction h with
 | nil=>intro _ c hc;cases hc
 | @cons g row c cs hg h1 h2 _ ih=>
  intro ho c' hc'
  rw[List.filter_append]
  rcases List.mem_cons.mp hc' with rfl | hc'
  ·have e1:g.filter (inC c')=g:=List.filter_eq_self.mpr fun x hx=>by simp[inC,hg.lo x hx,hg.hi x hx]
   have e2:row.filter (inC c')=[]:=List.filter_eq_nil_iff.mpr fun x hx=>by
    have:=h1 x hx;have:=ho x (List.mem_append_right _ hx)
    simp only[inC,Bool.and_eq_true,decide_eq_true_eq];lia
   rw[e1,e2,List.append_nil];exact hg
  ·have e1 : g.filter (inC c') = [] := List.filter_eq_nil_iff.mpr fun x hx => by
    have:=hg.hi x hx;have:=h2 c' hc';have:=ho x (List.mem_append_left _ hx)
    simp only[inC,Bool.and_eq_true,decide_eq_true_eq];lia
   rw[e1,List.nil_append]
   exact ih (fun x hx=>ho x (List.mem_append_right _ hx)) c' hc'
theorem Cls.sum {row cs:List T3}(h:Cls row cs):(cs.map (·.c)).sum=row.length:=by
 induction h with
 | nil=>rfl
 | cons hg _ _ _ ih=>simp only[List.map_cons,List.sum_cons,ih,hg.cnt,List.length_append];exact ln2 [] (.zeq (.a (.n .v0) (.n .v1)) (.n (.a .v0 .v1))) (.s (.d 11) (.d 11)) rfl
theorem Cls.apart {row cs:List T3}(h:Cls row cs):cs.Pairwise fun c c'=>c.b<c'.a:=by
 induction h with
 | nil=>exact .nil
 | cons _ _ h2 _ ih=>exact List.pairwise_cons.mpr ⟨h2,ih⟩
theorem Cls.len {row cs:List T3}(h:Cls row cs):cs.length≤row.length:=by
 induction h with
 | nil=>exact Nat.le_refl _
 | cons hg _ _ _ ih=>
  have:=List.length_pos_iff.mpr hg.ne
  simp only[List.length_cons,List.length_append];lia
theorem Zj2:∀(r:List Int) (x m:Int),x≤m→(∀y∈r,y≤m)→Wh r x≤m
 | [],x,m,h,_=>h
 | y::r,x,m,h,h'=>by
  have:=h' y List.mem_cons_self
  simp only[Wh]
  exact Zj2 r _ m (by split <;> lia) fun z hz=>h' z (List.mem_cons_of_mem _ hz)
theorem Zj3:∀(r:List Int) (x m:Int),(m≤x∨∃y∈r,m≤y)→m≤Wh r x
 | [],x,m,h=>by simpa[Wh] using h
 | y::r,x,m,h=>by
  simp only[Wh]
  refine Zj3 r _ m ?_
  rcases h with h | ⟨z,hz,h⟩
  ·left;split <;> lia
  ·rcases List.mem_cons.mp hz with rfl | hz
   ·left;split <;> lia
   ·exact .inr ⟨z,hz,h⟩
theorem Zj4:∀(r:List Int) (x m:Int),m≤x→(∀y∈r,m≤y)→m≤Wi r x
 | [],x,m,h,_=>h
 | y::r,x,m,h,h'=>by
  have:=h' y List.mem_cons_self
  simp only[Wi]
  exact Zj4 r _ m (by split <;> lia) fun z hz=>h' z (List.mem_cons_of_mem _ hz)
theorem Zj5:∀(r:List Int) (x m:Int),(x≤m∨∃y∈r,y≤m)→Wi r x≤m
 | [],x,m,h=>by simpa[Wi] using h
 | y::r,x,m,h=>by
  simp only[Wi]
  refine Zj5 r _ m ?_
  rcases h with h | ⟨z,hz,h⟩
  ·left;split <;> lia
  ·rcases List.mem_cons.mp hz with rfl | hz
   ·left;split <;> lia
   ·exact .inr ⟨z,hz,h⟩
theorem Zp7 {n:Nat}{l:List Int}{m:Int}(h:σ[n]?=some (.list (l.map V.int)))(h1:∀y∈l,y≤m)(h2:m∈l):Wa .max [.obj n] σ=some (.int m,σ):=by
 cases l with
 | nil=>cases h2
 | cons x r=>
  have:Wh r x=m:=by
   have a1:=Zj2 r x m (h1 x List.mem_cons_self) fun y hy=>h1 y (List.mem_cons_of_mem _ hy)
   have a2:=Zj3 r x m (by rcases List.mem_cons.mp h2 with rfl | h2;exact .inl (Int.le_refl _);exact .inr ⟨m,h2,Int.le_refl _⟩)
   lia
  have hb:Zcp Wh σ [.obj n]=some (.int m,σ):=by
   simp only[Zcp,Xh,Option.bind_some,Zs h,Wn];rw[this]
  exact hb
theorem Zp8 {n:Nat}{l:List Int}{m:Int}(h:σ[n]?=some (.list (l.map V.int)))(h1:∀y∈l,m≤y)(h2:m∈l):Wa .min [.obj n] σ=some (.int m,σ):=by
 cases l with
 | nil=>cases h2
 | cons x r=>
  have:Wi r x=m:=by
   have a1:=Zj4 r x m (h1 x List.mem_cons_self) fun y hy=>h1 y (List.mem_cons_of_mem _ hy)
   have a2:=Zj5 r x m (by rcases List.mem_cons.mp h2 with rfl | h2;exact .inl (Int.le_refl _);exact .inr ⟨m,h2,Int.le_refl _⟩)
   lia
  have hb:Zcp Wi σ [.obj n]=some (.int m,σ):=by
   simp only[Zcp,Xh,Option.bind_some,Zs h,Wn];rw[this]
  exact hb
theorem Q2 {r:Nat}{l:List V}(h:σ[r]?=some (.list l)):Wa .len [.obj r] σ=some (.int l.length,σ):=by show (items σ (.obj r)).map _=_;rw[Uc h];rfl
theorem Zhs {n:Nat}{l:List V}{x:V}(h:σ[n]?=some (.list (l++[x]))):Yo σ (.obj n) (.int (-1))=some x:=by
 simp only[Yo,Zeh,Option.bind_some,Uc h,Zco]
 rw[if_neg (by decide),if_pos (by simp;exact ln1 [] (.zle .k0 (.a (.g .k1) (.a (.n .v0) .k1))) (.d 11) rfl)]
 have:((-1:Int)+((l++[x]).length:Nat)).toNat=l.length:=by simp;exact ln2 [(.nt .v0 (.a (.g .k1) (.a (.n .v1) .k1)))] (.eq .v0 .v1) (.s (.s (.d 11001) (.d 11101)) (.s (.d 1101) (.d 1101))) rfl (U2 _)
 rw[this];simp
theorem Znw {l:List V}{x:V}(σ:H):W3 .pop (.obj σ.length) [] (σ++[.list (l++[x])])=some (x,σ++[.list l]):=by
 simp[W3,X9,Zof]
theorem Znx {acc:List T3}(h:acc.length<Zl)(σ:H)(x:T3):W3 .append (.obj σ.length) [x.v] (σ++[.list (acc.map T3.v)])=some (.none,σ++[.list ((acc++[x]).map T3.v)]):=by
 rw[Zhj (by rw[List.length_map];exact h)];simp
set_option tactic.hygienic true in
theorem Zet {pg:Pg}{fn:Nat}(hF:pg.fn fn=some ⟨[0],12,B5,.fresh⟩)(d:Nat)(σ:H)(r:Nat)(ts:List T3)(hr:σ[r]?=some (.list (ts.map T3.v)))(hl:ts.length≤1000) :
  Zh pg (d+1) fn [.obj r] σ=some (.ok (.obj σ.length),σ++[.list ((clumps ts).map T3.v)]):=by
 have hk:∀acc,(σ++[O.list acc])[r]?=some (.list (ts.map T3.v)):=fun acc=>Zj hr
 have e1:∃ℓ σ',exec ⟨pg,Zh pg d⟩ Zto [some (.obj r),some (.obj σ.length),none,none,none,none,none,none,none,none,none,none] (σ++[.list ([].map T3.v)])=some (.next,ℓ,σ')∧∃o1 o2,ℓ=[some (.obj r),some (.obj σ.length),o1,o2,none,none,none,none,none,none,none,none]∧σ'=σ++[.list ((clumps ts).map T3.v)]:=by
  rw[Zto,Xj (Jc (n:=r) (Zb rfl) (hk _))]
  refine Wv T3.v (fun xs ℓ σ'=>∃o1 o2 A,ℓ=[some (.obj r),some (.obj σ.length),o1,o2,none,none,none,none,none,none,none,none]∧σ'=σ++[.list (A.map T3.v)]∧A.length+xs.length≤1000∧((A=[]∧clumps xs=clumps ts)∨∃acc c,A=acc++[c]∧acc++Zdy xs c=clumps ts)) _ ?_ ?_ ts _ _ ⟨none,none,[],rfl,rfl,by simpa using hl,.inl ⟨rfl,rfl⟩⟩
  ·rintro ℓ σ' ⟨o1,o2,A,h1,h2,_,⟨rfl,h3⟩ | ⟨acc,c,rfl,h3⟩⟩
   ·exact ⟨o1,o2,h1,by rw[← h3];exact h2⟩
   ·exact ⟨o1,o2,h1,by rw[← h3];exact h2⟩
  ·intro x xs ℓ σ' hX4
   refine byC fun hnX=>?_
   obtain ⟨o1,o2,A,rfl,rfl,hA,h3⟩:=hX4
   refine hnX ?_
   clear hnX
   simp only[List.length_cons] at hA
   have hap:=fun y=>Znx (acc:=A) (by unfold Zl;exact ln2 [(.le (.a .v0 (.a .v1 .k1)) (.k 1000))] (.lt .v0 (.k 1000000)) (.d 111) rfl hA) σ y
   have hla:Wa .len [.obj σ.length] (σ++[.list (A.map T3.v)])=some (.int A.length,σ++[.list (A.map T3.v)]):=by
    have:=Q2 (σ:=σ++[.list (A.map T3.v)]) (r:=σ.length) (l:=A.map T3.v) (by simp)
    rw[List.length_map] at this;exact this
   refine ⟨by simp,.inl ?_⟩
   rcases h3 with ⟨rfl,h3⟩ | ⟨acc,c,rfl,h3⟩
   ·exact ⟨_,_,Zv (Zq (U4 (Zk (Z6 (Za (Zb rfl) Ze) hla) Zf (gtF (by simp)))) (Zv (Y7 (Xd (Zb rfl) (Zs (gl σ _)) (Za (Y4 (Za (Zm rfl (Yn _ _)) (Za (Zm rfl (Y2 _ _)) (Za Zf Ze))) rfl) Ze) (hap ⟨x.a,x.b,1⟩))))),hk _,_,_,_,rfl,rfl,by simp;exact ln2 [(.le (.a .v1 (.a .v0 .k1)) (.k 1000))] (.le (.a .k1 .v0) (.k 1000)) (.d 111) rfl hA,.inr ⟨[],_,rfl,by simpa[clumps] using h3⟩⟩
   ·have hlast:(σ++[O.list ((acc++[c]).map T3.v)])[σ.length]?=some (.list (acc.map T3.v++[c.v])):=by simp
    have hgi:=Zhs hlast
    have hpop:W3 .pop (.obj σ.length) [] (σ++[.list ((acc++[c]).map T3.v)])=some (c.v,σ++[.list (acc.map T3.v)]):=by rw[List.map_append];exact Znw σ
    have hap2:=fun y=>Znx (acc:=acc) (by simp at hA;unfold Zl;exact ln2 [(.le (.a (.a .v0 .k1) (.a .v1 .k1)) (.k 1000))] (.lt .v0 (.k 1000000)) (.d 111) rfl hA) σ y
    have h0:(0:Int)<((acc++[c]).length:Nat):=by rw[List.length_append];simp only[List.length_cons,List.length_nil];exact ln1 [] (.zlt .k0 (.n (.a .v0 (.a .k0 .k1)))) (.d 11) rfl
    have h3:acc++(if x.a≤c.b then Zdy xs ⟨c.a,max c.b x.b,c.c+1⟩ else c::Zdy xs ⟨x.a,x.b,1⟩)=clumps ts:=h3
    have hcnd:∀p,Z9 .le (.int x.a) (.int c.b) (σ++[.list ((acc++[c]).map T3.v)])=some p→Zg ⟨pg,Zh pg d⟩ (Ex.and (Ex.cmp (Ex.blt Blt.len (Es.cons (Ex.var 1) Es.nil)) (Ch.one Cop.gt (Ex.lit (V.int 0)))) (Ex.cmp (Ex.idx (Ex.var 2) (Ex.lit (V.int 0))) (Ch.one Cop.le (Ex.idx (Ex.idx (Ex.var 1) (Ex.neg (Ex.lit (V.int 1)))) (Ex.lit (V.int 1)))))) [some (.obj r),some (.obj σ.length),some x.v,o2,none,none,none,none,none,none,none,none] (σ++[.list ((acc++[c]).map T3.v)])=some (.ok (.bool p),σ++[.list ((acc++[c]).map T3.v)]):=fun p hp=>
     U3 (Zk (Z6 (Za (Zb rfl) Ze) hla) Zf (gtT h0)) (Zk (Zm rfl (Yn _ _)) (Y8 (Y8 (Zb rfl) (Zqk Zf) hgi) Zf (Y2 _ _)) hp)
    by_cases c1:x.a≤c.b
    ·rw[if_pos c1] at h3
     have mx:Wa .max [.int c.b,.int x.b] (σ++[.list (acc.map T3.v)])=some (.int (max c.b x.b),σ++[.list (acc.map T3.v)]):=by
      show some (V.int (if c.b<x.b then x.b else c.b),_)=_;rw[show (if c.b<x.b then x.b else c.b)=max c.b x.b by lia]
     exact ⟨_,_,Zv (Z7 (hcnd true (leT c1)) (Zc (Zx (Xd (Zb rfl) (Zs (gl σ _)) Ze hpop) rfl) (Zv (Y7 (Xd (Zb rfl) (Zs (gl σ _)) (Za (Y4 (Za (Zm rfl (Yn _ _)) (Za (Z6 (Za (Zm rfl (Y2 _ _)) (Za (Zm rfl (Y2 _ _)) Ze)) mx) (Za (Zi (Zm rfl (Zk5 _ _)) Zf (Z2 _ _ _)) Ze))) rfl) Ze) (hap2 ⟨c.a,max c.b x.b,c.c+1⟩)))))),hk _,_,_,_,rfl,rfl,by simp at hA ⊢;exact ln2 [(.le (.a (.a .v0 .k1) (.a .v1 .k1)) (.k 1000))] (.le (.a (.a .v0 .k1) .v1) (.k 1000)) (.d 111) rfl hA,.inr ⟨acc,_,rfl,h3⟩⟩
    ·rw[if_neg c1] at h3
     exact ⟨_,_,Zv (Zq (hcnd false (leF c1)) (Zv (Y7 (Xd (Zb rfl) (Zs (gl σ _)) (Za (Y4 (Za (Zm rfl (Yn _ _)) (Za (Zm rfl (Y2 _ _)) (Za Zf Ze))) rfl) Ze) (hap ⟨x.a,x.b,1⟩))))),hk _,_,_,_,rfl,rfl,by simp at hA ⊢;exact ln2 [(.le (.a (.a .v0 .k1) (.a .v1 .k1)) (.k 1000))] (.le (.a (.a .v0 (.k 2)) .v1) (.k 1000)) (.d 111) rfl hA,.inr ⟨acc++[c],_,rfl,by simpa using h3⟩⟩
 refine byC fun hX=>?_;obtain ⟨_,_,e1,o1,o2,rfl,rfl⟩:=e1;refine hX ?_;clear hX
 exact Jy hF rfl (Zc (Zx (Uj Ze rfl) rfl) (Zc e1 (Zp (Z1 (Zb rfl))))) (Nat.le_refl _) (Jd _ _) (by simp)
theorem W0 (q:Int→Bool):∀(S:List Int),S.Pairwise (fun x y=>q y=true→q x=true)→∀(k:Nat) (h:k<S.length),(q S[k]=true↔k<S.countP q)
 | [],_,k,h=>by simp at h
 | x::r,hp,k,h=>by
  have hp':=List.pairwise_cons.mp hp
  by_cases c:q x=true
  ·rw[List.countP_cons_of_pos c]
   cases k with
   | zero=>simp[c]
   | succ k=>
    have:=W0 q r hp'.2 k (by simpa using h)
    simp only[List.getElem_cons_succ];rw[this];lia
  ·have h0:∀y∈r,¬ q y=true:=fun y hy hq=>c (hp'.1 y hy hq)
   have e:(x::r).countP q=0:=by
    rw[List.countP_cons_of_neg c,List.countP_eq_zero];exact h0
   rw[e]
   refine ⟨fun hq=>?_,fun hk=>absurd hk (Nat.not_lt_zero _)⟩
   cases k with
   | zero=>exact absurd hq c
   | succ k=>exact absurd hq (h0 _ (by simp))
noncomputable def Zio (S:List Int):Prop:=S.Pairwise (fun x y=>x≤y)
theorem Zbx {S:List Int}{k:Nat}(h:k<S.length):nth S k=S[k]:=by simp[nth,List.getD_eq_getElem?_getD,List.getElem?_eq_getElem h]
theorem lt_iff {S:List Int}(hS:Zio S){k:Nat}(h:k<S.length)(v:Int):nth S k<v↔k<S.countP (fun x=>decide (x<v)):=by
 rw[Zbx h,← W0 (fun x=>decide (x<v)) S (hS.imp fun hxy hy=>by simp at hy ⊢;exact lz3 [(.zle .v0 .v2),(.zlt .v2 .v1)] (.zlt .v0 .v1) (.d 1111) rfl hxy hy) k h];simp
theorem le_iff {S:List Int}(hS:Zio S){k:Nat}(h:k<S.length)(v:Int):nth S k≤v↔k<S.countP (fun x=>decide (x≤v)):=by
 rw[Zbx h,← W0 (fun x=>decide (x≤v)) S (hS.imp fun hxy hy=>by simp at hy ⊢;exact lz3 [(.zle .v0 .v2),(.zle .v2 .v1)] (.zle .v0 .v1) (.d 1111) rfl hxy hy) k h];simp
theorem Zht {S:List Int}(hS:Zio S){i j:Nat}(hij:i≤j)(hj:j<S.length):nth S i≤nth S j:=by
 rcases Nat.eq_or_lt_of_le hij with rfl | h
 ·exact Int.le_refl _
 ·rw[Zbx (by exact ln3 [(.le .v0 .v2),(.lt .v2 .v1)] (.lt .v0 .v1) (.d 1111) rfl hij hj),Zbx hj];exact List.pairwise_iff_getElem.mp hS i j (by exact ln3 [(.le .v0 .v2),(.lt .v2 .v1)] (.lt .v0 .v1) (.d 1111) rfl hij hj) hj h
noncomputable def gn (E:List Int)(v:Int):Nat:=E.countP (fun x=>decide (x<v))
noncomputable def up (S:List Int)(v:Int):Nat:=S.countP (fun x=>decide (x≤v))
theorem Zj6 (E:List Int){u v:Int}(h:u≤v):gn E u≤gn E v:=List.countP_mono_left fun x u_ hx=>by simp at hx ⊢;exact lz3 [(.zle .v2 .v1),(.zlt .v0 .v2)] (.zlt .v0 .v1) (.d 1111) rfl h hx
noncomputable def Zeu (S E:List Int)(b:Int×Int)(i:Nat):Int×Int:=if b.1<(i:Int)+1-gn E (nth S i) then ((i:Int)+1-gn E (nth S i),nth S i) else b
structure Best (S E:List Int)(lo:Int)(i:Nat)(b:Int×Int):Prop where
 all:∀j<i,(j:Int)+1-gn E (nth S j)≤b.1
 one:(b=(0,lo))∨(0<b.1∧∃j<i,(j:Int)+1-gn E (nth S j)=b.1∧nth S j=b.2∧∀j'<j,(j':Int)+1-gn E (nth S j')<b.1)
theorem Best.zero (S E:List Int)(lo:Int):Best S E lo 0 (0,lo):=⟨fun j h=>absurd h (Nat.not_lt_zero _),.inl rfl⟩
set_option tactic.hygienic true in
theorem Best.step {S E:List Int}{lo:Int}{i:Nat}{b:Int×Int}(h:Best S E lo i b):Best S E lo (i+1) (Zeu S E b i):=by
 unfold Zeu
 split
 ·rename_i hlt
  refine ⟨fun j hj=>?_,.inr ⟨?_,i,by exact ln1 [] (.lt .v0 (.a .v0 .k1)) (.d 11) rfl,rfl,rfl,fun j hj=>?_⟩⟩
  ·rcases Nat.lt_succ_iff_lt_or_eq.mp hj with hj | rfl
   ·have:=h.all j hj;simp only;lia
   ·exact Int.le_refl _
  ·rcases h.one with rfl | ⟨h0,_⟩
   ·exact hlt
   ·simp only;exact lin [(.zlt .v0 (.s (.a (.n .v0) .k1) (.n .v1))),(.zlt .k0 .v0)] (.zlt .k0 (.s (.a (.n .v0) .k1) (.n .v1))) (.d 1111) rfl [_,_] [_] hlt h0
  ·have:=h.all j hj;simp only;lia
 ·rename_i hlt
  refine ⟨fun j hj=>?_,?_⟩
  ·rcases Nat.lt_succ_iff_lt_or_eq.mp hj with hj | rfl
   ·exact h.all j hj
   ·exact lin [(.no (.zlt .v0 (.s (.a (.n .v0) .k1) (.n .v1))))] (.zle (.s (.a (.n .v0) .k1) (.n .v1)) .v0) (.d 111) rfl [_,_] [_] hlt
  ·rcases h.one with e | ⟨h0,j,hj,e⟩
   ·exact .inl e
   ·exact .inr ⟨h0,j,by exact ln2 [(.lt .v0 .v1)] (.lt .v0 (.a .v1 .k1)) (.d 111) rfl hj,e⟩
noncomputable def U6 (ts:List T3)(q:Int):Nat:=(ts.filter fun x=>decide (x.a≤q)&&decide (q≤x.b)).length
noncomputable def sel (ts:List T3)(lo hi:Int):List T3:=ts.filter fun x=>decide (x.a≤hi)&&decide (lo≤x.b)
noncomputable def Zu (ts:List T3)(lo hi:Int):List Int:=((sel ts lo hi).map fun x=>if lo<x.a then x.a else lo).mergeSort fun a b=>decide (a≤b)
noncomputable def Y0 (ts:List T3)(lo hi:Int):List Int:=((sel ts lo hi).map fun x=>x.b).mergeSort fun a b=>decide (a≤b)
theorem X5 (l:List Int):Zio (l.mergeSort fun a b=>decide (a≤b)):=by
 have:=List.pairwise_mergeSort (le:=fun a b:Int=>decide (a≤b)) (fun a b c h1 h2=>by simp at *;exact lz3 [(.zle .v0 .v2),(.zle .v2 .v1)] (.zle .v0 .v1) (.d 1111) rfl h1 h2) (fun a b=>by simp;exact lz2 [] (.or (.zle .v0 .v1) (.zle .v1 .v0)) (.d 111) rfl) l
 exact this.imp fun h=>by simpa using h
section
variable {ts:List T3}{lo hi:Int}
theorem Jl (l:List Int)(q:Int→Bool):(l.mergeSort fun a b=>decide (a≤b)).countP q=l.countP q:=(List.mergeSort_perm l _).countP_eq q
theorem Zny (ho:∀x∈ts,x.a≤x.b)(q:Int)(h1:lo≤q)(h2:q≤hi):U6 ts q+gn (Y0 ts lo hi) q=up (Zu ts lo hi) q:=by
 unfold gn up Y0 Zu
 rw[Jl,Jl,List.countP_map,List.countP_map]
 unfold U6 sel
 rw[← List.countP_eq_length_filter]
 induction ts with
 | nil=>rfl
 | cons x r ih=>
  have hx:=ho x List.mem_cons_self
  have ih:=ih fun y hy=>ho y (List.mem_cons_of_mem _ hy)
  by_cases c:(decide (x.a≤hi)&&decide (lo≤x.b))=true
  ·rw[List.filter_cons_of_pos (p:=fun x:T3=>decide (x.a≤hi)&&decide (lo≤x.b)) c]
   simp only[List.countP_cons,Function.comp]
   simp only[Bool.and_eq_true,decide_eq_true_eq] at c
   by_cases c1:x.a≤q <;> by_cases c2:q≤x.b
   ·have n1:¬ x.b<q:=by exact lz2 [(.zle .v1 .v0)] (.no (.zlt .v0 .v1)) (.d 111) rfl c2
    have n2:(if lo<x.a then x.a else lo)≤q:=by split <;> lia
    simp[c1,c2,n1,n2];lia
   ·have n1:x.b<q:=by exact lz2 [(.no (.zle .v1 .v0))] (.zlt .v0 .v1) (.d 111) rfl c2
    have n2:(if lo<x.a then x.a else lo)≤q:=by split <;> lia
    simp[c1,c2,n1,n2];lia
   ·have n1:¬ x.b<q:=by exact lz3 [(.zle .v2 .v0),(.no (.zle .v2 .v1))] (.no (.zlt .v0 .v1)) (.d 1111) rfl hx c1
    have n2:¬ (if lo<x.a then x.a else lo)≤q:=by split <;> lia
    simp[c1,c2,n1,n2];lia
   ·lia
  ·rw[List.filter_cons_of_neg (p:=fun x:T3=>decide (x.a≤hi)&&decide (lo≤x.b)) c]
   simp only[Bool.and_eq_true,decide_eq_true_eq] at c
   rw[List.countP_cons_of_neg (by simp only[Bool.and_eq_true,decide_eq_true_eq];exact lz5 [(.zle .v3 .v1),(.zle .v1 .v4),(.no (.an (.zle .v0 .v4) (.zle .v3 .v2)))] (.no (.an (.zle .v0 .v1) (.zle .v1 .v2))) (.s (.d 110011) (.d 101101)) rfl h1 h2 c)]
   exact ih
theorem Ztp:(Y0 ts lo hi).length=(Zu ts lo hi).length:=by unfold Y0 Zu;simp
theorem Zip {v:Int}(hle:lo≤hi)(h:v∈Zu ts lo hi):lo≤v∧v≤hi:=by
 unfold Zu at h
 rw[(List.mergeSort_perm _ _).mem_iff] at h
 refine byC fun hX=>?_;obtain ⟨x,hx,rfl⟩:=List.mem_map.mp h;refine hX ?_;clear hX
 have:=(List.mem_filter.mp hx).2
 simp only[Bool.and_eq_true,decide_eq_true_eq] at this
 split <;> lia
theorem Znz {v:Int}(h:v∈Y0 ts lo hi):lo≤v:=by
 unfold Y0 at h
 rw[(List.mergeSort_perm _ _).mem_iff] at h
 refine byC fun hX=>?_;obtain ⟨x,hx,rfl⟩:=List.mem_map.mp h;refine hX ?_;clear hX
 have:=(List.mem_filter.mp hx).2
 simp only[Bool.and_eq_true,decide_eq_true_eq] at this
 exact this.2
theorem Zv9 (ho:∀x∈ts,x.a≤x.b)(v:Int):gn (Y0 ts lo hi) v≤gn (Zu ts lo hi) v:=by
 unfold gn Y0 Zu
 rw[Jl,Jl,List.countP_map,List.countP_map]
 refine List.countP_mono_left fun x hx h=>?_
 have h1:=(List.mem_filter.mp hx).2
 have h2:=ho x ((List.mem_filter.mp hx).1)
 simp only[Bool.and_eq_true,decide_eq_true_eq,Function.comp] at h h1 ⊢
 split <;> lia
theorem Zwa (ho:∀x∈ts,x.a≤x.b){i:Nat}(hi':i<(Zu ts lo hi).length):gn (Y0 ts lo hi) (nth (Zu ts lo hi) i)≤i:=by
 refine Nat.le_trans (Zv9 ho _) ?_
 exact Nat.le_of_not_lt fun hlt=>Int.lt_irrefl _ ((lt_iff (X5 _) hi' (nth (Zu ts lo hi) i)).mpr hlt)
set_option tactic.hygienic true in
theorem Zn0 (ho:∀x∈ts,x.a≤x.b)(hle:lo≤hi){b:Int×Int}(h:Best (Zu ts lo hi) (Y0 ts lo hi) lo (Zu ts lo hi).length b) :
  lo≤b.2∧b.2≤hi∧(U6 ts b.2:Int)=b.1∧∀q,lo≤q→q≤hi→(U6 ts q:Int)≤b.1∧((U6 ts q:Int)=b.1→b.2≤q):=by
 have hS:Zio (Zu ts lo hi):=X5 _
 have hov:=fun q h1 h2=>Zny (ts:=ts) (lo:=lo) (hi:=hi) ho q h1 h2
 have hmem:∀j,j<(Zu ts lo hi).length→lo≤nth (Zu ts lo hi) j∧nth (Zu ts lo hi) j≤hi:=fun j hj=>by rw[Zbx hj];exact Zip hle (List.getElem_mem hj)
 have hup:∀q,up (Zu ts lo hi) q≤(Zu ts lo hi).length:=fun q=>List.countP_le_length
 have hE0:gn (Y0 ts lo hi) lo=0:=List.countP_eq_zero.mpr fun x hx=>by have:=Znz hx;simp;exact lz2 [(.zle .v0 .v1)] (.zle .v0 .v1) (.d 111) rfl this
 have key:∀q,lo≤q→q≤hi→0<up (Zu ts lo hi) q→∃j,j<(Zu ts lo hi).length∧j+1=up (Zu ts lo hi) q∧nth (Zu ts lo hi) j≤q∧(U6 ts q:Int)≤(j:Int)+1-gn (Y0 ts lo hi) (nth (Zu ts lo hi) j):=by
  intro q h1 h2 h3
  have hu:=hup q
  obtain ⟨j,hj⟩ : ∃j,j+1=up (Zu ts lo hi) q:=⟨up (Zu ts lo hi) q-1,by exact ln2 [(.lt .k0 .v1),(.sb .v0 .v1 .k1)] (.eq (.a .v0 .k1) .v1) (.s (.s (.d 110001) (.d 110101)) (.s (.d 11001) (.d 11101))) rfl h3 (Zd _ _)⟩
  have hjl:j<(Zu ts lo hi).length:=by exact ln3 [(.le .v2 .v1),(.eq (.a .v0 .k1) .v2)] (.lt .v0 .v1) (.d 1111) rfl hu hj
  have hjq:nth (Zu ts lo hi) j≤q:=(le_iff hS hjl q).mpr (by unfold up at hj;exact ln2 [(.eq (.a .v0 .k1) .v1)] (.lt .v0 .v1) (.d 111) rfl hj)
  have:=hov q h1 h2
  have:=Zj6 (Y0 ts lo hi) hjq
  exact ⟨j,hjl,hj,hjq,by exact ln5 [(.eq (.a .v1 .k1) .v3),(.le .v2 .v4),(.eq (.a .v0 .v4) .v3)] (.zle (.n .v0) (.s (.a (.n .v1) .k1) (.n .v2))) (.d 110111) rfl hj this ‹_›⟩
 generalize Zu ts lo hi=S at *
 generalize Y0 ts lo hi=E at *
 rcases h.one with rfl | ⟨h0,j,hj,e1,e2,e3⟩
 ·simp only at *
  have hz:∀q,lo≤q→q≤hi→U6 ts q=0:=by
   intro q h1 h2
   rcases Nat.eq_zero_or_pos (up S q) with c | c
   ·have:=hov q h1 h2;lia
   ·refine byC fun hX=>?_;obtain ⟨j,q1,q2,q3,q4⟩:=key q h1 h2 c;refine hX ?_;clear hX
    have:=h.all j q1
    simp only at this;lia
  exact ⟨Int.le_refl _,hle,by rw[hz lo (Int.le_refl _) hle];rfl,fun q h1 h2=>⟨by rw[hz q h1 h2];exact Int.le_refl _,fun u_=>h1⟩⟩
 ·have hm:=hmem j hj
  rw[e2] at hm
  have hq:∀q,lo≤q→q≤hi→(U6 ts q:Int)≤b.1∧((U6 ts q:Int)=b.1→b.2≤q):=by
   intro q h1 h2
   rcases Nat.eq_zero_or_pos (up S q) with c | c
   ·have:=hov q h1 h2;lia
   ·refine byC fun hX=>?_;obtain ⟨k,q1,q2,q3,q4⟩:=key q h1 h2 c;refine hX ?_;clear hX
    have:=h.all k q1
    refine ⟨by exact lin [(.zle (.n .v0) (.s (.a (.n .v1) .k1) (.n .v2))),(.zle (.s (.a (.n .v1) .k1) (.n .v2)) .v0)] (.zle (.n .v0) .v0) (.d 1111) rfl [_,_,_] [_] q4 this,fun he=>?_⟩
    have hjk:j≤k:=Nat.le_of_not_lt fun hlt=>by have:=e3 k hlt;lia
    have:=Zht hS hjk q1
    lia
  refine ⟨hm.1,hm.2,?_,hq⟩
  have h1:=(hq b.2 hm.1 hm.2).1
  have hju:j<up S b.2:=(le_iff hS hj b.2).mp (by exact lz2 [(.zeq .v0 .v1)] (.zle .v0 .v1) (.d 111) rfl e2)
  have h2:=hov b.2 hm.1 hm.2
  rw[e2] at e1
  lia
end
noncomputable def Zyd:St:=(.expr (.call 2 (.cons .v1 (.cons .v2 .nil))))
noncomputable def Zwb:St:=(.asg (.one 3) (.blt .sorted (.cons (.comp (.blt .max (.cons .v1 (.cons (.idx .v9 (.i 0)) .nil))) 9 (.ex .v0) (.cons (.and (.cmp (.idx .v9 (.i 0)) (.one .le .v2)) (.cmp (.idx .v9 (.i 1)) (.one .ge .v1))) .nil)) .nil)))
noncomputable def Zwc:St:=(.asg (.one 4) (.blt .sorted (.cons (.comp (.idx .v9 (.i 1)) 9 (.ex .v0) (.cons (.and (.cmp (.idx .v9 (.i 0)) (.one .le .v2)) (.cmp (.idx .v9 (.i 1)) (.one .ge .v1))) .nil)) .nil)))
noncomputable def Zye:St:=(.asg (.one 5) (.tup (.cons (.i 0) (.cons .v1 .nil))))
noncomputable def Zyf:St:=(.asg (.one 6) (.i 0))
noncomputable def Ztq:St:=(.for_ (.one 7) (.rng1 (.blt .len (.cons .v3 .nil))) (.cons (.whl (.cmp (.idx .v4 .v6) (.one .lt (.idx .v3 .v7))) (.cons (.asg (.one 6) (.bin .add .v6 (.i 1))) .nil)) (.cons (.ife (.cmp (.bin .sub (.bin .add .v7 (.i 1)) .v6) (.one .gt (.idx .v5 (.i 0)))) (.cons (.asg (.one 5) (.tup (.cons (.bin .sub (.bin .add .v7 (.i 1)) .v6) (.cons (.idx .v3 .v7) .nil)))) .nil) .nil) .nil)))
noncomputable def Zyg:St:=(.ret .v5)
noncomputable def B6:Ss:=.cons Zyd <| .cons Zwb <| .cons Zwc <| .cons Zye <| .cons Zyf <| .cons Ztq <| .cons Zyg <| .nil
noncomputable def Zwd:St:=(.ret (.blt .len (.cons (.comp .v3 3 (.ex .v0) (.cons (.cmp (.idx .v3 (.i 0)) (.more .le .v1 (.one .le (.idx .v3 (.i 1))))) .nil)) .nil)))
noncomputable def B33:Ss:=.cons Zwd <| .nil
theorem Zlb (l:List Int):Q7 (l.map V.int)=some ((l.mergeSort fun a b=>decide (a≤b)).map .int):=by
 unfold Q7;rw[Wn];rfl
set_option tactic.hygienic true in
theorem Zev {test:L→H→X V}{body:L→H→Y}(ℓ:Nat→L)(σ:H)(e:Nat)(ht:∀g,g<e→test (ℓ g) σ=some (.ok (.bool true),σ))(hf:test (ℓ e) σ=some (.ok (.bool false),σ))(hb:∀g,g<e→body (ℓ g) σ=some (.next,ℓ (g+1),σ)) :
  ∀n g,g≤e→e-g<n→Wx test body n (ℓ g) σ=some (.next,ℓ e,σ)
 | 0,g,_,h=>absurd h (Nat.not_lt_zero _)
 | n+1,g,hg,h=>by
  rcases Nat.eq_or_lt_of_le hg with rfl | hlt
  ·exact Zek hf
  ·rw[Zhk (ht g hlt) (hb g hlt)]
   exact Zev ℓ σ e ht hf hb n (g+1) hlt (by exact ln5 [(.lt .v2 (.a .v1 .k1)),(.lt .v3 .v4),(.sb .v2 .v4 .v3),(.sb .v0 .v4 (.a .v3 .k1))] (.lt .v0 .v1) (.s (.s (.d 111000101) (.d 111100101)) (.s (.d 10011) (.d 10011))) rfl h hlt (Zd _ _) (Zd _ _))
theorem Zaq {n:Nat}{l:List Int}(h:σ[n]?=some (.list (l.map V.int))){k:Nat}(hk:k<l.length):Yo σ (.obj n) (.int k)=some (.int (nth l k)):=by
 rw[We h (by simpa using hk),Zbx hk];simp
theorem Zb6 {r:Nat}{l:List Int}(h:σ[r]?=some (.list (l.map V.int)))(hl:l.length≤1000):Wa .sorted [.obj r] σ=some (.obj σ.length,σ++[.list ((l.mergeSort fun a b=>decide (a≤b)).map .int)]):=by
 show ((Yg σ (.obj r)).bind Q7).bind (Yu σ)=_
 rw[Zs h]
 show (Q7 (l.map V.int)).bind (Yu σ)=_
 rw[Zlb]
 exact Jv (by rw[List.length_map,List.length_mergeSort];unfold Zl;exact ln1 [(.le .v0 (.k 1000))] (.le .v0 (.k 1000000)) (.d 111) rfl hl) _
set_option tactic.hygienic true in
theorem Ziq {pg:Pg}(h1:pg.fn 1=some ⟨[0],9,B1,.pure⟩)(h2:pg.fn 2=some ⟨[0,1],10,B2,.pure⟩)(hF:pg.fn 6=some ⟨[0,1,2],16,B6,.pure⟩)(d:Nat)(lo hi:Int)(hl1 : -10^60<lo)(hle:lo≤hi)(hh:hi<10^60)(σ:H)(r:Nat)(ts:List T3)(ho:∀x∈ts,x.a≤x.b)(hr:σ[r]?=some (.list (ts.map T3.v)))(hl:ts.length≤1000) :
  ∃b:Int×Int,Best (Zu ts lo hi) (Y0 ts lo hi) lo (Zu ts lo hi).length b∧Zh pg (d+3) 6 [.obj r,.int lo,.int hi] σ=some (.ok (.tup [.int b.1,.int b.2]),σ):=by
 have hsl:(sel ts lo hi).length≤1000:=Nat.le_trans (List.length_filter_le _ _) hl
 have hif:∀(o3 o4:Option V) (x:T3) (σ':H),Ji ⟨pg,Zh pg (d+2)⟩ (Es.cons (Ex.and (Ex.cmp (Ex.idx (Ex.var 9) (Ex.lit (V.int 0))) (Ch.one Cop.le (Ex.var 2))) (Ex.cmp (Ex.idx (Ex.var 9) (Ex.lit (V.int 1))) (Ch.one Cop.ge (Ex.var 1)))) Es.nil) [some (.obj r),some (.int lo),some (.int hi),o3,o4,none,none,none,none,some x.v,none,none,none,none,none,none] σ'=some (.ok (decide (x.a≤hi)&&decide (lo≤x.b)),σ'):=fun o3 o4 x σ'=>
  X3 (Qo (Zk (Zm rfl (Yn _ _)) (Zb rfl) (Qq _ _ _)) (Zk (Zm rfl (Y2 _ _)) (Zb rfl) (Zs6 _ _ _)))
 have ec1 := Yx (C := ⟨pg, Zh pg (d + 2)⟩) (elt := Ex.blt Blt.max (Es.cons (Ex.var 1) (Es.cons (Ex.idx (Ex.var 9) (Ex.lit (V.int 0))) Es.nil))) (tg := 9) (it := It.ex (Ex.var 0)) (ifs := Es.cons (Ex.and (Ex.cmp (Ex.idx (Ex.var 9) (Ex.lit (V.int 0))) (Ch.one Cop.le (Ex.var 2))) (Ex.cmp (Ex.idx (Ex.var 9) (Ex.lit (V.int 1))) (Ch.one Cop.ge (Ex.var 1)))) Es.nil)
   (ℓ:=[some (.obj r),some (.int lo),some (.int hi),none,none,none,none,none,none,none,none,none,none,none,none,none]) (σ:=σ) (σ1:=σ) T3.v (fun x=>if (decide (x.a≤hi)&&decide (lo≤x.b)) then some (V.int (if lo<x.a then x.a else lo)) else none) (Jc (n:=r) (Zb rfl) hr) hr (by simp) (by unfold Zl;exact ln1 [(.le .v0 (.k 1000))] (.le .v0 (.k 1000000)) (.d 111) rfl hl) fun x u_=>
    Zcb (hif none none x σ) (Z6 (Za (Zb rfl) (Za (Zm rfl (Yn _ _)) Ze)) rfl)
 rw[Yp,show (ts.filter fun x=>decide (x.a≤hi)&&decide (lo≤x.b)).map (fun x=>V.int (if lo<x.a then x.a else lo))=((sel ts lo hi).map fun x=>if lo<x.a then x.a else lo).map .int by simp[sel]] at ec1
 have hs1:=Zb6 (σ:=σ++[.list (((sel ts lo hi).map fun x=>if lo<x.a then x.a else lo).map .int)]) (r:=σ.length) (l:=(sel ts lo hi).map fun x=>if lo<x.a then x.a else lo) (by simp) (by simpa using hsl)
 have e1:=Zx (ℓ:=[some (.obj r),some (.int lo),some (.int hi),none,none,none,none,none,none,none,none,none,none,none,none,none]) (i:=3) (Z6 (Za ec1 Ze) hs1) rfl
 have hr2:(σ++[.list (((sel ts lo hi).map fun x=>if lo<x.a then x.a else lo).map .int)]++[.list ((Zu ts lo hi).map .int)])[r]?=some (.list (ts.map T3.v)):=Zj (Zj hr)
 have hS0:(σ++[.list (((sel ts lo hi).map fun x=>if lo<x.a then x.a else lo).map .int)]++[.list ((Zu ts lo hi).map .int)])[(σ++[O.list (((sel ts lo hi).map fun x=>if lo<x.a then x.a else lo).map .int)]).length]?=some (.list ((Zu ts lo hi).map .int)):=by simp
 obtain ⟨n1,en1⟩ : ∃n1,n1=(σ++[O.list (((sel ts lo hi).map fun x=>if lo<x.a then x.a else lo).map .int)]).length:=⟨_,rfl⟩
 obtain ⟨σ2,eσ2⟩ : ∃σ2,σ2=σ++[.list (((sel ts lo hi).map fun x=>if lo<x.a then x.a else lo).map .int)]++[.list ((Zu ts lo hi).map .int)]:=⟨_,rfl⟩
 have e1:exec ⟨pg,Zh pg (d+2)⟩ Zwb [some (.obj r),some (.int lo),some (.int hi),none,none,none,none,none,none,none,none,none,none,none,none,none] σ=some (.next,[some (.obj r),some (.int lo),some (.int hi),some (.obj n1),none,none,none,none,none,none,none,none,none,none,none,none],σ2):=by rw[eσ2,en1];exact e1
 rw[← eσ2] at hr2 hS0
 rw[← en1] at hS0
 have hpre:∃t,σ2=σ++t:=⟨_,by rw[eσ2,List.append_assoc]⟩
 clear hs1 ec1 en1 eσ2
 have ec2 := Yx (C := ⟨pg, Zh pg (d + 2)⟩) (elt := Ex.idx (Ex.var 9) (Ex.lit (V.int 1))) (tg := 9) (it := It.ex (Ex.var 0)) (ifs := Es.cons (Ex.and (Ex.cmp (Ex.idx (Ex.var 9) (Ex.lit (V.int 0))) (Ch.one Cop.le (Ex.var 2))) (Ex.cmp (Ex.idx (Ex.var 9) (Ex.lit (V.int 1))) (Ch.one Cop.ge (Ex.var 1)))) Es.nil)
   (ℓ:=[some (.obj r),some (.int lo),some (.int hi),some (.obj n1),none,none,none,none,none,none,none,none,none,none,none,none]) (σ:=σ2) (σ1:=σ2) T3.v (fun x=>if (decide (x.a≤hi)&&decide (lo≤x.b)) then some (V.int x.b) else none) (Jc (n:=r) (Zb rfl) hr2) hr2 (by simp) (by unfold Zl;exact ln1 [(.le .v0 (.k 1000))] (.le .v0 (.k 1000000)) (.d 111) rfl hl) fun x u_=>
    Zcb (hif (some (.obj n1)) none x σ2) (Zm rfl (Y2 _ _))
 rw[Yp,show (ts.filter fun x=>decide (x.a≤hi)&&decide (lo≤x.b)).map (fun x=>V.int x.b)=((sel ts lo hi).map fun x=>x.b).map .int by simp[sel]] at ec2
 have hs2:=Zb6 (σ:=σ2++[.list (((sel ts lo hi).map fun x=>x.b).map .int)]) (r:=σ2.length) (l:=(sel ts lo hi).map fun x=>x.b) (by simp) (by simpa using hsl)
 have e2:=Zx (ℓ:=[some (.obj r),some (.int lo),some (.int hi),some (.obj n1),none,none,none,none,none,none,none,none,none,none,none,none]) (i:=4) (Z6 (Za ec2 Ze) hs2) rfl
 have hS:(σ2++[.list (((sel ts lo hi).map fun x=>x.b).map .int)]++[.list ((Y0 ts lo hi).map .int)])[n1]?=some (.list ((Zu ts lo hi).map .int)):=Zj (Zj hS0)
 have hE:(σ2++[.list (((sel ts lo hi).map fun x=>x.b).map .int)]++[.list ((Y0 ts lo hi).map .int)])[(σ2++[O.list (((sel ts lo hi).map fun x=>x.b).map .int)]).length]?=some (.list ((Y0 ts lo hi).map .int)):=by simp
 obtain ⟨n2,en2⟩ : ∃n2,n2=(σ2++[O.list (((sel ts lo hi).map fun x=>x.b).map .int)]).length:=⟨_,rfl⟩
 obtain ⟨σ4,eσ4⟩ : ∃σ4,σ4=σ2++[.list (((sel ts lo hi).map fun x=>x.b).map .int)]++[.list ((Y0 ts lo hi).map .int)]:=⟨_,rfl⟩
 have e2:exec ⟨pg,Zh pg (d+2)⟩ Zwc [some (.obj r),some (.int lo),some (.int hi),some (.obj n1),none,none,none,none,none,none,none,none,none,none,none,none] σ2=some (.next,[some (.obj r),some (.int lo),some (.int hi),some (.obj n1),some (.obj n2),none,none,none,none,none,none,none,none,none,none,none],σ4):=by rw[eσ4,en2];exact e2
 rw[← eσ4] at hS hE
 rw[← en2] at hE
 have h4:∃t,σ4=σ++t:=by obtain ⟨t,rfl⟩:=hpre;exact ⟨_,by rw[eσ4,List.append_assoc,List.append_assoc]⟩
 clear hs2 ec2 en2 eσ4 hpre hr2 hS0
 have hsl2:(Zu ts lo hi).length≤1000:=by unfold Zu;simpa using hsl
 have hSE:=Ztp (ts:=ts) (lo:=lo) (hi:=hi)
 have hgl:∀i,i<(Zu ts lo hi).length→gn (Y0 ts lo hi) (nth (Zu ts lo hi) i)≤i:=fun i hi'=>Zwa ho hi'
 have hEs:Zio (Y0 ts lo hi):=X5 _
 have hSs:Zio (Zu ts lo hi):=X5 _
 generalize Zu ts lo hi=S at *
 generalize Y0 ts lo hi=E at *
 have e5:∃ℓ σ',exec ⟨pg,Zh pg (d+2)⟩ Ztq [some (.obj r),some (.int lo),some (.int hi),some (.obj n1),some (.obj n2),some (.tup [.int 0,.int lo]),some (.int 0),none,none,none,none,none,none,none,none,none] σ4=some (.next,ℓ,σ')∧∃b o1 o2,Best S E lo S.length b∧ℓ=[some (.obj r),some (.int lo),some (.int hi),some (.obj n1),some (.obj n2),some (.tup [.int b.1,.int b.2]),o1,o2,none,none,none,none,none,none,none,none]∧σ'=σ4:=by
  have hir:=Zbs (C:=⟨pg,Zh pg (d+2)⟩) (e:=Ex.blt Blt.len (Es.cons (Ex.var 3) Es.nil)) (ℓ:=[some (.obj r),some (.int lo),some (.int hi),some (.obj n1),some (.obj n2),some (.tup [.int 0,.int lo]),some (.int 0),none,none,none,none,none,none,none,none,none]) (σ:=σ4) (σ1:=σ4) (n:=S.length) (by have:=Q2 hS;rw[List.length_map] at this;exact Z6 (Za (Zb rfl) Ze) this) (by unfold Zl;exact ln1 [(.le .v0 (.k 1000))] (.le .v0 (.k 1000000)) (.d 111) rfl hsl2)
  rw[Ztq,Xj hir]
  refine Wv (fun k:Nat=>V.int k) (fun xs ℓ σ'=>∃j b g o,xs=List.range' j (S.length-j)∧j≤S.length∧Best S E lo j b∧(∀i,j≤i→i<S.length→g≤gn E (nth S i))∧ℓ=[some (.obj r),some (.int lo),some (.int hi),some (.obj n1),some (.obj n2),some (.tup [.int b.1,.int b.2]),some (.int (g:Nat)),o,none,none,none,none,none,none,none,none]∧σ'=σ4) _ ?_ ?_ (List.range S.length) _ _ ⟨0,(0,lo),0,none,by simp[List.range_eq_range'],by exact ln1 [] (.le .k0 .v0) (.d 11) rfl,Best.zero _ _ _,fun u_ v_ w_=>Nat.zero_le _,rfl,rfl⟩
  ·intro ℓ σ' hX2
   refine byC fun hnX=>?_
   obtain ⟨j,b,g,o,h1,h2,hb,_,rfl,hq⟩:=hX2
   refine hnX ?_
   clear hnX
   have:j=S.length:=by
    have:=congrArg List.length h1
    simp at this;lia
   subst this
   exact ⟨b,_,o,hb,rfl,hq⟩
  ·intro k xs ℓ σ' hX4
   refine byC fun hnX=>?_
   obtain ⟨j,b,g,o,h1,h2,hb,hg,rfl,hq⟩:=hX4
   refine hnX ?_
   clear hnX
   rw[hq]
   clear hq σ'
   refine ⟨by simp,.inl ?_⟩
   have hj:j<S.length:=by
    rcases Nat.lt_or_ge j S.length with h | h
    ·exact h
    ·rw[(by exact ln3 [(.le .v1 .v2),(.sb .v0 .v1 .v2)] (.eq .v0 .k0) (.s (.s (.d 110101) (.d 110001)) (.s (.d 11101) (.d 11001))) rfl h (Zd _ _):S.length-j=0)] at h1;simp at h1
   obtain ⟨m,hm⟩ : ∃m,S.length-j=m+1:=⟨S.length-j-1,by exact ln4 [(.lt .v2 .v3),(.sb .v1 .v0 .k1),(.sb .v0 .v3 .v2)] (.eq .v0 (.a .v1 .k1)) (.s (.s (.s (.d 11001) (.d 11001)) (.s (.d 111010001) (.d 1010001))) (.s (.s (.d 110001) (.d 110001)) (.s (.d 110101) (.d 110101)))) rfl hj (Zd _ _) (Zd _ _)⟩
   rw[hm,List.range'_succ] at h1
   injection h1 with h1 h1'
   subst h1
   have gS:=Zaq hS hj
   have hgk:=hgl k hj
   have hw:=Zev (test:=Zg ⟨pg,Zh pg (d+2)⟩ (Ex.cmp (Ex.idx (Ex.var 4) (Ex.var 6)) (Ch.one Cop.lt (Ex.idx (Ex.var 3) (Ex.var 7))))) (body:=execs ⟨pg,Zh pg (d+2)⟩ (Ss.cons (St.asg (Tg.one 6) (Ex.bin Bop.add (Ex.var 6) (Ex.lit (V.int 1)))) Ss.nil))
    (fun g'=>[some (.obj r),some (.int lo),some (.int hi),some (.obj n1),some (.obj n2),some (.tup [.int b.1,.int b.2]),some (.int (g':Nat)),some (.int k),none,none,none,none,none,none,none,none]) σ4 (gn E (nth S k))
    (fun g' hg'=>by
     have gE:=Zaq hE (k:=g') (by exact ln5 [(.eq .v1 .v2),(.lt .v3 .v2),(.le .v4 .v3),(.lt .v0 .v4)] (.lt .v0 .v1) (.d 1101111) rfl hSE hj hgk hg')
     have:nth E g'<nth S k:=(lt_iff hEs (by exact ln5 [(.eq .v1 .v2),(.lt .v3 .v2),(.le .v4 .v3),(.lt .v0 .v4)] (.lt .v0 .v1) (.d 1101111) rfl hSE hj hgk hg') _).mpr hg'
     exact Zk (Y8 (Zb rfl) (Zb rfl) gE) (Y8 (Zb rfl) (Zb rfl) gS) (clT this))
    (by
     have gE:=Zaq hE (k:=gn E (nth S k)) (by exact ln4 [(.eq .v1 .v2),(.lt .v3 .v2),(.le .v0 .v3)] (.lt .v0 .v1) (.d 110111) rfl hSE hj hgk)
     have:¬ nth E (gn E (nth S k))<nth S k:=fun h=>Nat.lt_irrefl (gn E (nth S k)) ((lt_iff hEs (k:=gn E (nth S k)) (by exact ln4 [(.eq .v1 .v2),(.lt .v3 .v2),(.le .v0 .v3)] (.lt .v0 .v1) (.d 110111) rfl hSE hj hgk) _).mp h)
     exact Zk (Y8 (Zb rfl) (Zb rfl) gE) (Y8 (Zb rfl) (Zb rfl) gS) (clF this))
    (fun g' u_=>Zv (Zx (Zi (Zb rfl) Zf (Z2 _ _ _)) rfl)) Qi g (hg k (Nat.le_refl _) hj) (by unfold Qi;lia)
   refine ⟨[some (.obj r),some (.int lo),some (.int hi),some (.obj n1),some (.obj n2),some (.tup [.int (Zeu S E b k).1,.int (Zeu S E b k).2]),some (.int (gn E (nth S k):Nat)),some (.int k),none,none,none,none,none,none,none,none],σ4,?_,trivial,k+1,Zeu S E b k,gn E (nth S k),_,by rw[h1',(by exact ln5 [(.eq .v2 (.a .v1 .k1)),(.sb .v2 .v4 .v3),(.sb .v0 .v4 (.a .v3 .k1))] (.eq .v0 .v1) (.s (.s (.s (.d 1101010001) (.d 1101010101)) (.s (.d 10001001) (.d 1101010001))) (.s (.s (.d 111000101) (.d 110000001)) (.s (.d 10001001) (.d 100101)))) rfl hm (Zd _ _) (Zd _ _):S.length-(k+1)=m)],by exact ln2 [(.lt .v0 .v1)] (.le (.a .v0 .k1) .v1) (.d 111) rfl hj,hb.step,fun i h1 h2=>Zj6 E (Zht hSs (by exact ln2 [(.le (.a .v0 .k1) .v1)] (.le .v0 .v1) (.d 111) rfl h1) h2),rfl,rfl⟩
   refine Zc (show exec _ (St.whl _ _) _ _=_ from hw) (Zv ?_)
   unfold Zeu
   by_cases c:b.1<(k:Int)+1-gn E (nth S k)
   ·rw[if_pos c]
    exact Z7 (Zk (Zi (Zi (Zb rfl) Zf (Z2 _ _ _)) (Zb rfl) (Ye _ _ _)) (Zm rfl (Zel _ _ _)) (gtT c)) (Zv (Zx (Y4 (Za (Zi (Zi (Zb rfl) Zf (Z2 _ _ _)) (Zb rfl) (Ye _ _ _)) (Za (Y8 (Zb rfl) (Zb rfl) gS) Ze)) rfl) rfl))
   ·rw[if_neg c]
    exact Zq (Zk (Zi (Zi (Zb rfl) Zf (Z2 _ _ _)) (Zb rfl) (Ye _ _ _)) (Zm rfl (Zel _ _ _)) (gtF c)) Zn
 refine byC fun hX=>?_;obtain ⟨_,_,e5,b,o1,o2,hB,rfl,hq⟩:=e5;refine hX ?_;clear hX
 rw[hq] at e5
 refine ⟨b,hB,?_⟩
 refine byC fun hX=>?_;obtain ⟨t,rfl⟩:=h4;refine hX ?_;clear hX
 exact Zei hF rfl (Zc (Y7 (Zo (Za (Zb rfl) (Za (Zb rfl) Ze)) (Zfs h1 h2 d lo hi hl1 hle hh σ))) (Zc e1 (Zc e2 (Zc (Zx (Y4 (Za Zf (Za (Zb rfl) Ze)) rfl) rfl) (Zc (Zx Zf rfl) (Zc e5 (Zp (Z1 (Zb rfl))))))))) rfl
noncomputable def Zwe:St:=(.ife (.not (.blt .isinstance (.cons .v0 (.cons (.ty 3) .nil)))) (.cons (.ret (.lit (.bool false))) .nil) .nil)
noncomputable def Zra:Ss:=(.cons (.ife (.or (.not (.blt .isinstance (.cons .v2 (.cons (.ty 2) .nil)))) (.cmp (.blt .len (.cons .v2 .nil)) (.one .ne .v1))) (.cons (.ret (.lit (.bool false))) .nil) .nil) (.cons (.ife (.cmp (.blt .len (.cons (.comp .v4 4 (.ex .v2) (.cons (.call 25 (.cons .v4 .nil)) .nil)) .nil)) (.one .ne .v1)) (.cons (.ret (.lit (.bool false))) .nil) .nil) .nil))
noncomputable def Zwf:St:=(.for_ (.one 2) (.ex .v0) Zra)
noncomputable def Zwg:St:=(.ret (.lit (.bool true)))
noncomputable def B51:Ss:=.cons Zwe <| .cons Zwf <| .cons Zwg <| .nil
noncomputable def Zwh:St:=(.ife (.not (.call 51 (.cons .v0 (.cons (.i 2) .nil)))) (.cons (.ret (.lit (.bool false))) .nil) .nil)
noncomputable def Zrb:St:=(.asg (.one 4) (.bin .add (.bin .add (.lst (.cons (.idx .v2 (.i 0)) (.cons (.idx .v2 (.i 1)) .nil))) (.comp (.bin .sub (.idx .v8 (.i 0)) (.i 1)) 8 (.ex .v1) .nil)) (.comp (.bin .add (.idx .v8 (.i 1)) (.i 1)) 8 (.ex .v1) .nil)))
noncomputable def Zrc:St:=(.asg (.one 4) (.bin .add (.bin .add .v4 (.comp (.bin .sub (.idx .v8 (.i 0)) (.i 1)) 8 (.ex .v0) .nil)) (.comp (.bin .add (.idx .v8 (.i 1)) (.i 1)) 8 (.ex .v0) .nil)))
noncomputable def Zrd:Ss:=(.cons (.asg (.one 3) (.idx .v0 .v5)) (.cons (.ife (.or (.not (.cmp (.idx .v2 (.i 0)) (.more .le (.idx .v3 (.i 0)) (.more .le (.idx .v3 (.i 1)) (.one .le (.idx .v2 (.i 1))))))) (.and (.cmp .v5 (.one .gt (.i 0))) (.cmp (.bin .add (.idx (.idx .v0 (.bin .sub .v5 (.i 1))) (.i 1)) (.i 1)) (.one .ge (.idx .v3 (.i 0)))))) (.cons (.ret (.lit (.bool false))) .nil) .nil) (.cons (.ife (.cmp (.blt .len (.cons (.comp .v8 8 (.ex .v1) (.cons (.and (.cmp (.idx .v8 (.i 0)) (.one .le (.idx .v3 (.i 1)))) (.cmp (.idx .v3 (.i 0)) (.one .le (.idx .v8 (.i 1))))) .nil)) .nil)) (.one .gt (.i 0))) (.cons (.ret (.lit (.bool false))) .nil) .nil) .nil)))
noncomputable def Zwi:St:=(.for_ (.one 5) (.rng1 (.blt .len (.cons .v0 .nil))) Zrd)
noncomputable def Zre:Ss:=(.cons (.ife (.and (.cmp (.idx .v2 (.i 0)) (.more .le .v6 (.one .le (.idx .v2 (.i 1))))) (.cmp (.bin .add (.call 33 (.cons .v1 (.cons .v6 .nil))) (.call 33 (.cons .v0 (.cons .v6 .nil)))) (.one .eq (.i 0)))) (.cons (.ret (.lit (.bool false))) .nil) .nil) .nil)
noncomputable def Zwj:St:=(.for_ (.one 6) (.ex .v4) Zre)
noncomputable def Zwk:St:=(.ret (.lit (.bool true)))
noncomputable def B30:Ss:=.cons Zwh <| .cons Zrb <| .cons Zrc <| .cons Zwi <| .cons Zwj <| .cons Zwk <| .nil
noncomputable def Zwl:St:=(.ife (.or (.not (.call 51 (.cons (.lst (.cons .v0 .nil)) (.cons (.i 2) .nil)))) (.not (.cmp (.idx .v2 (.i 0)) (.more .le (.idx .v0 (.i 1)) (.one .le (.idx .v2 (.i 1))))))) (.cons (.ret (.lit (.bool false))) .nil) .nil)
noncomputable def Zwm:St:=(.ife (.cmp (.call 33 (.cons .v1 (.cons (.idx .v0 (.i 1)) .nil))) (.one .ne (.idx .v0 (.i 0)))) (.cons (.ret (.lit (.bool false))) .nil) .nil)
noncomputable def Zrf:Ss:=(.cons (.asg (.one 4) (.call 33 (.cons .v1 (.cons .v3 .nil)))) (.cons (.ife (.or (.cmp .v4 (.one .gt (.idx .v0 (.i 0)))) (.and (.cmp .v4 (.one .eq (.idx .v0 (.i 0)))) (.cmp .v3 (.one .lt (.idx .v0 (.i 1)))))) (.cons (.ret (.lit (.bool false))) .nil) .nil) .nil))
noncomputable def Zwn:St:=(.for_ (.one 3) (.ex (.bin .add (.lst (.cons (.idx .v2 (.i 0)) .nil)) (.comp (.idx .v6 (.i 0)) 6 (.ex .v1) (.cons (.cmp (.idx .v2 (.i 0)) (.more .le (.idx .v6 (.i 0)) (.one .le (.idx .v2 (.i 1))))) .nil)))) Zrf)
noncomputable def Zwo:St:=(.ret (.lit (.bool true)))
noncomputable def B52:Ss:=.cons Zwl <| .cons Zwm <| .cons Zwn <| .cons Zwo <| .nil
noncomputable def Zwp:St:=(.ife (.or (.not (.call 51 (.cons .v0 (.cons (.i 3) .nil)))) (.cmp (.blt .sum (.cons (.comp (.idx (.var 10) (.i 2)) 10 (.ex .v0) .nil) .nil)) (.one .ne (.blt .len (.cons .v1 .nil))))) (.cons (.ret (.lit (.bool false))) .nil) .nil)
noncomputable def I53:Ss:=(.cons (.asg (.one 8) (.comp (.var 10) 10 (.ex .v7) (.cons (.cmp (.idx (.var 10) (.i 0)) (.more .le (.idx .v2 (.i 1)) (.one .lt (.idx (.var 10) (.i 1))))) .nil))) (.cons (.ife (.and (.cmp (.idx .v2 (.i 1)) (.one .lt .v5)) (.cmp (.blt .len (.cons .v8 .nil)) (.one .eq (.i 0)))) (.cons (.ret (.lit (.bool false))) .nil) .nil) .nil))
noncomputable def Zrg:Ss:=(.cons (.asg (.three 4 5 6) (.idx .v0 .v3)) (.cons (.asg (.one 7) (.comp (.var 10) 10 (.ex .v1) (.cons (.and (.cmp .v4 (.one .le (.idx (.var 10) (.i 0)))) (.cmp (.idx (.var 10) (.i 1)) (.one .le .v5))) .nil))) (.cons (.ife (.or (.cmp (.blt .len (.cons .v7 .nil)) (.one .eq (.i 0))) (.or (.cmp (.blt .len (.cons .v7 .nil)) (.one .ne .v6)) (.and (.cmp .v3 (.one .gt (.i 0))) (.cmp (.idx (.idx .v0 (.bin .sub .v3 (.i 1))) (.i 1)) (.one .ge .v4))))) (.cons (.ret (.lit (.bool false))) .nil) .nil) (.cons (.ife (.or (.cmp (.blt .min (.cons (.comp (.idx (.var 10) (.i 0)) 10 (.ex .v7) .nil) .nil)) (.one .ne .v4)) (.cmp (.blt .max (.cons (.comp (.idx (.var 10) (.i 1)) 10 (.ex .v7) .nil) .nil)) (.one .ne .v5))) (.cons (.ret (.lit (.bool false))) .nil) .nil) (.cons (.for_ (.one 2) (.ex .v7) I53) .nil)))))
noncomputable def Zwq:St:=(.for_ (.one 3) (.rng1 (.blt .len (.cons .v0 .nil))) Zrg)
noncomputable def Zwr:St:=(.ret (.lit (.bool true)))
noncomputable def B53:Ss:=.cons Zwp <| .cons Zwq <| .cons Zwr <| .nil
set_option tactic.hygienic true in
theorem X6 {α:Type}{body:L→H→Y}{t:Nat}{keep:H→Prop}(g:α→V)(E:L→Prop)(hk:∀τ,keep (σ++τ))(ht:∀ℓ,E ℓ→t<ℓ.length) :
  ∀(xs:List α),(∀x∈xs,∀ℓ τ,E ℓ→∃ℓ2 τ2,body (ℓ.set t (some (g x))) (σ++τ)=some (.next,ℓ2,σ++τ2)∧E ℓ2)→∀(ℓ:L) (τ:H),E ℓ→∃ℓ' τ',Zaf body (.one t) keep (xs.map g) ℓ (σ++τ)=some (.next,ℓ',σ++τ')∧E ℓ'
 | [],_,ℓ,τ,h=>⟨ℓ,τ,rfl,h⟩
 | x::r,hs,ℓ,τ,h=>by
  refine Jz (fun ℓ2 τ2 e h2=>?_) (hs x List.mem_cons_self ℓ τ h)
  refine Jz (fun ℓ' τ' e' h'=>?_) (X6 g E hk ht r (fun y hy=>hs y (List.mem_cons_of_mem _ hy)) ℓ2 τ2 h2)
  exact ⟨ℓ',τ',(Zju (Zig (ht ℓ h)) e (hk τ2)).trans e',h'⟩
theorem Zn1 {r:Nat}{l:List V}(h:σ[r]?=some (.list l)):Wa .isinstance [.obj r,.ty 3] σ=some (.bool true,σ):=by
 show ((Yg σ (.obj r)).bind fun u_=>if 3=3 then some true else .none).map _=_
 rw[Zmx h];rfl
section
variable {pg:Pg}
theorem Zdp (h25:pg.fn 25=some ⟨[0],9,B25,.pure⟩)(h51:pg.fn 51=some ⟨[0,1],11,B51,.pure⟩)(d n:Nat){ll:List (List Int)}(hn:∀is∈ll,is.length=n)(hN:n≤10){r:Nat}(hr:σ[r]?=some (.list (Z0 ll))):Zh pg (d+2) 51 [.obj r,.int n] σ=some (.ok (.bool true),σ):=by
 refine Jz (fun ℓ' τ' e h=>?_) (X6 (body:=execs ⟨pg,Zh pg (d+1)⟩ Zra) (t:=2) (keep:=fun σ'=>σ'[r]?=some (.list (Z0 ll))) (σ:=σ) (fun is:List Int=>V.tup (is.map .int)) (fun ℓ=>∃o,ℓ=[some (.obj r),some (.int n),o,none,none,none,none,none,none,none,none]) (fun τ=>Zj hr) (fun ℓ h=>by obtain ⟨o,rfl⟩:=h;exact Nat.le_of_ble_eq_true rfl) ll (fun is his ℓ τ h=>?_) [some (.obj r),some (.int n),none,none,none,none,none,none,none,none,none] [] ⟨none,rfl⟩)
 ·rw[List.append_nil] at e
  exact Zei h51 rfl (Zc (Zq (Zbq (Z6 (Za (Zb rfl) (Za Zmv Ze)) (Zn1 hr))) Zn) (Zc ((Xj (Jc (Zb rfl) hr)).trans e) (Zp (Z1 Zf)))) rfl
 ·refine byC fun hX=>?_;obtain ⟨o,rfl⟩:=h;refine hX ?_;clear hX
  have hl:((is.map V.int).length:Int)=n:=by rw[List.length_map,hn is his]
  have ec:=Yx (C:=⟨pg,Zh pg (d+1)⟩) (elt:=Ex.var 4) (tg:=4) (it:=It.ex (Ex.var 2)) (ifs:=Es.cons (Ex.call 25 (Es.cons (Ex.var 4) Es.nil)) Es.nil) (ℓ:=[some (.obj r),some (.int n),some (.tup (is.map .int)),none,none,none,none,none,none,none,none]) (σ:=σ++τ) (keep:=fun u_=>True) V.int (fun i=>some (V.int i)) rfl trivial (Nat.le_of_ble_eq_true rfl) (by rw[hn is his];exact Nat.le_trans hN (by decide)) fun i u_=>Ztb (α:=Unit) (X3 (Zo (Za (Zb rfl) Ze) (Zm5 h25 d i (σ++τ)))) (Zb rfl)
  have h2:((is.filterMap fun i=>some (V.int i)).length:Int)=n:=by rw[List.filterMap_eq_map',List.length_map,hn is his]
  refine ⟨_,τ++[.list (is.filterMap fun i=>some (V.int i))],?_,some (.tup (is.map .int)),rfl⟩
  rw[← List.append_assoc]
  exact Zc (Zq (Wu (Zbq (Z6 (Za (Zb rfl) (Za Zmv Ze)) rfl)) (Zk (Z6 (Za (Zb rfl) Ze) rfl) (Zb rfl) (neF hl))) Zn) (Zv (Zq (Zk (Z6 (Za ec Ze) (Q2 (gl _ _))) (Zb rfl) (neF h2)) Zn))
end
noncomputable def Qs (hi:Int):List T3→Int→List (Int×Int)
 | [],c=>if c≤hi then [(c,hi)] else []
 | x::r,c=>if hi<x.a then (if c≤hi then [(c,hi)] else []) else if c≤x.b then (if c<x.a then (c,x.a-1)::Qs hi r (x.b+1) else Qs hi r (x.b+1)) else Qs hi r c
theorem Zdq (hi:Int):∀(r:List T3) (c:Int) (acc:List (Int×Int)),U1 hi r c acc=acc++Qs hi r c
 | [],c,acc=>by
  show (if c≤hi then acc++[(c,hi)] else acc)=acc++(if c≤hi then [(c,hi)] else [])
  split
  ·rfl
  ·rw[List.append_nil]
 | x::r,c,acc=>by
  show (if hi<x.a then (if c≤hi then acc++[(c,hi)] else acc) else if c≤x.b then U1 hi r (x.b+1) (if c<x.a then acc++[(c,x.a-1)] else acc) else U1 hi r c acc)=acc++(if hi<x.a then (if c≤hi then [(c,hi)] else []) else if c≤x.b then (if c<x.a then (c,x.a-1)::Qs hi r (x.b+1) else Qs hi r (x.b+1)) else Qs hi r c)
  rw[Zdq hi r (x.b+1),Zdq hi r c]
  split
  ·split
   ·rfl
   ·rw[List.append_nil]
  ·split
   ·split
    ·rw[List.append_assoc];rfl
    ·rfl
   ·rfl
structure Gp (ts:List T3)(lo hi:Int)(G:List (Int×Int)):Prop where
 inn:∀g∈G,lo≤g.1∧g.1≤g.2∧g.2≤hi
 sep:G.Pairwise fun g g'=>g.2+1<g'.1
 off:∀g∈G,∀x∈ts,¬ (x.a≤g.2∧g.1≤x.b)
 cov:∀p,lo≤p→p≤hi→(∃x∈ts,x.a≤p∧p≤x.b)∨∃g∈G,g.1≤p∧p≤g.2
theorem Gp.one {ts:List T3}{c hi:Int}(h:∀y∈ts,hi<y.a):Gp ts c hi (if c≤hi then [(c,hi)] else []):=by
 by_cases q:c≤hi
 ·rw[if_pos q]
  refine ⟨fun g hg=>?_,List.pairwise_singleton _ _,fun g hg x hx=>?_,fun p h1 h2=>.inr ⟨_,List.mem_singleton.mpr rfl,h1,h2⟩⟩
  ·rw[List.mem_singleton.mp hg];exact ⟨Int.le_refl _,q,Int.le_refl _⟩
  ·rw[List.mem_singleton.mp hg];exact fun e=>Int.not_lt.mpr e.1 (h x hx)
 ·rw[if_neg q]
  exact ⟨fun g hg=>(nomatch hg),.nil,fun g hg=>(nomatch hg),fun p h1 h2=>absurd (Int.le_trans h1 h2) q⟩
theorem Gp.skip {r:List T3}{x:T3}{c c' hi:Int}{G:List (Int×Int)}(h:Gp r c' hi G)(h1:c≤c')(h2:x.b<c')(h3:∀p,c≤p→p<c'→x.a≤p∧p≤x.b):Gp (x::r) c hi G:=by
 refine ⟨fun g hg=>⟨Int.le_trans h1 (h.inn g hg).1,(h.inn g hg).2⟩,h.sep,fun g hg y hy=>?_,fun p p1 p2=>?_⟩
 ·rcases List.mem_cons.mp hy with rfl | hy
  ·exact fun e=>absurd (Int.lt_of_lt_of_le h2 (h.inn g hg).1) (Int.not_lt.mpr e.2)
  ·exact h.off g hg y hy
 ·rcases Int.lt_or_le p c' with q | q
  ·exact .inl ⟨x,List.mem_cons_self,h3 p p1 q⟩
  ·rcases h.cov p q p2 with ⟨y,hy,e⟩ | e
   ·exact .inl ⟨y,List.mem_cons_of_mem _ hy,e⟩
   ·exact .inr e
theorem Gp.emit {ts:List T3}{a c hi:Int}{G:List (Int×Int)}(h:Gp ts a hi G)(h1:c<a)(h2:a≤hi)(h3:∀y∈ts,a≤y.a)(h4:∀g∈G,a<g.1):Gp ts c hi ((c,a-1)::G):=by
 refine ⟨fun g hg=>?_,List.pairwise_cons.mpr ⟨fun g hg=>?_,h.sep⟩,fun g hg y hy=>?_,fun p p1 p2=>?_⟩
 ·rcases List.mem_cons.mp hg with rfl | hg
  ·exact ⟨Int.le_refl _,Int.le_sub_one_of_lt h1,Int.le_trans (Int.sub_le_self a (by decide)) h2⟩
  ·exact ⟨Int.le_trans (Int.le_of_lt h1) (h.inn g hg).1,(h.inn g hg).2⟩
 ·rw[Int.sub_add_cancel];exact h4 g hg
 ·rcases List.mem_cons.mp hg with rfl | hg
  ·exact fun e=>Int.not_lt.mpr (h3 y hy) (Int.lt_of_le_sub_one e.1)
  ·exact h.off g hg y hy
 ·rcases Int.lt_or_le p a with q | q
  ·exact .inr ⟨_,List.mem_cons_self,p1,Int.le_sub_one_of_lt q⟩
  ·rcases h.cov p q p2 with e | ⟨g,hg,e⟩
   ·exact .inl e
   ·exact .inr ⟨g,List.mem_cons_of_mem _ hg,e⟩
set_option tactic.hygienic true in
theorem Zfx (hi:Int):∀(r:List T3) (c:Int),r.Pairwise (fun x y=>x.a≤y.a)→(∀x∈r,x.a≤x.b)→Gp r c hi (Qs hi r c)
 | [],c,_,_=>Gp.one fun y hy=>nomatch hy
 | x::r,c,hs,ho=>by
  have hs':=List.pairwise_cons.mp hs
  have ho':∀y∈r,y.a≤y.b:=fun y hy=>ho y (List.mem_cons_of_mem _ hy)
  have hx:=ho x List.mem_cons_self
  have hy:∀y∈x::r,x.a≤y.a:=fun y hy=>(List.mem_cons.mp hy).elim (fun e=>e▸Int.le_refl _) (hs'.1 y)
  show Gp (x::r) c hi (if hi<x.a then (if c≤hi then [(c,hi)] else []) else if c≤x.b then (if c<x.a then (c,x.a-1)::Qs hi r (x.b+1) else Qs hi r (x.b+1)) else Qs hi r c)
  split
  ·rename_i h1;exact Gp.one fun y h=>Int.lt_of_lt_of_le h1 (hy y h)
  ·rename_i h1
   have h1:=Int.not_lt.mp h1
   split
   ·rename_i h2
    have ih:=Zfx hi r (x.b+1) hs'.2 ho'
    split
    ·rename_i h3
     exact Gp.emit (ih.skip (c:=x.a) (Int.le_trans hx (Int.le_add_one (Int.le_refl _))) (Int.lt_add_one_of_le (Int.le_refl _)) fun p p1 p2=>⟨p1,Int.le_of_lt_add_one p2⟩) h3 h1 hy fun g hg=>Int.lt_of_lt_of_le (Int.lt_add_one_of_le hx) (ih.inn g hg).1
    ·rename_i h3
     exact ih.skip (Int.le_trans h2 (Int.le_add_one (Int.le_refl _))) (Int.lt_add_one_of_le (Int.le_refl _)) fun p p1 p2=>⟨Int.le_trans (Int.not_lt.mp h3) p1,Int.le_of_lt_add_one p2⟩
   ·rename_i h2
    exact (Zfx hi r c hs'.2 ho').skip (Int.le_refl _) (Int.not_le.mp h2) fun p p1 p2=>absurd p2 (Int.not_lt.mpr p1)
theorem Zdr (hi:Int):∀(r:List T3) (c:Int),(Qs hi r c).length≤r.length+1
 | [],c=>by
  show (if c≤hi then [(c,hi)] else []).length≤1
  split
  ·exact Nat.le_refl _
  ·exact Nat.zero_le _
 | x::r,c=>by
  have h1:=Zdr hi r (x.b+1)
  have h2:=Zdr hi r c
  show (if hi<x.a then (if c≤hi then [(c,hi)] else []) else if c≤x.b then (if c<x.a then (c,x.a-1)::Qs hi r (x.b+1) else Qs hi r (x.b+1)) else Qs hi r c).length≤r.length+1+1
  split
  ·split
   ·exact Nat.succ_le_succ (Nat.zero_le _)
   ·exact Nat.zero_le _
  ·split
   ·split
    ·exact Nat.succ_le_succ h1
    ·exact Nat.le_succ_of_le h1
   ·exact Nat.le_succ_of_le h2
structure Twn {α:Type}(g:α→V)(fa fb:α→Int):Prop where
 a:∀σ x,Yo σ (g x) (.int 0)=some (.int (fa x))
 b:∀σ x,Yo σ (g x) (.int 1)=some (.int (fb x))
noncomputable def pv (g:Int×Int):V:=.tup [.int g.1,.int g.2]
theorem Ztr:Twn T3.v T3.a T3.b:=⟨fun u_ v_=>rfl,fun u_ v_=>rfl⟩
theorem Zyh:Twn pv Prod.fst Prod.snd:=⟨fun u_ v_=>rfl,fun u_ v_=>rfl⟩
theorem Zn2 (G:List (Int×Int)):prs G=G.map pv:=by
 unfold prs Z0;rw[List.map_map];rfl
noncomputable def ovr {α:Type}(fa fb:α→Int)(xs:List α)(q:Int):Nat:=(xs.filter fun x=>decide (fa x≤q)&&decide (q≤fb x)).length
theorem Zj7 {α:Type}{fa fb:α→Int}{xs:List α}{q:Int}(h:∃x∈xs,fa x≤q∧q≤fb x):0<ovr fa fb xs q:=by
 revert h;refine rEA fun x hx h=>?_
 exact List.length_pos_of_mem (List.mem_filter.mpr ⟨hx,by rw[decide_eq_true h.1,decide_eq_true h.2];rfl⟩)
section
variable {pg:Pg}{α:Type}{g:α→V}{fa fb:α→Int}
theorem Zj8 (hF:pg.fn 33=some ⟨[0,1],10,B33,.pure⟩)(T:Twn g fa fb)(d:Nat)(q:Int){r:Nat}{xs:List α}(hr:σ[r]?=some (.list (xs.map g)))(hl:xs.length≤Zl):Zh pg (d+1) 33 [.obj r,.int q] σ=some (.ok (.int (ovr fa fb xs q)),σ):=by
 have ec:=Yx (C:=⟨pg,Zh pg d⟩) (elt:=Ex.var 3) (tg:=3) (it:=It.ex (Ex.var 0)) (ifs:=Es.cons (Ex.cmp (Ex.idx (Ex.var 3) (Ex.lit (V.int 0))) (Ch.more Cop.le (Ex.var 1) (Ch.one Cop.le (Ex.idx (Ex.var 3) (Ex.lit (V.int 1)))))) Es.nil)
  (ℓ:=[some (.obj r),some (.int q),none,none,none,none,none,none,none,none]) (σ:=σ) (σ1:=σ) g (fun x=>if (decide (fa x≤q)&&decide (q≤fb x)) then some (g x) else none) (Jc (n:=r) (Zb rfl) hr) hr (Nat.le_of_ble_eq_true rfl) hl fun x u_=>
   Zcb (X3 (Zbo (Zm rfl (T.a _ _)) (Zb rfl) (Zm rfl (T.b _ _)) rfl rfl)) (Zb rfl)
 rw[Yp] at ec
 have hl2:=Q2 (gl σ (.list ((xs.filter fun x=>decide (fa x≤q)&&decide (q≤fb x)).map g)))
 rw[List.length_map] at hl2
 exact Zei hF rfl (Zp (Z1 (Z6 (Za ec Ze) hl2))) rfl
theorem X7 {C:Cl}{r u i:Nat}{elt:Ex}{xs:List α}{f:α→Int}(hr:σ[r]?=some (.list (xs.map g)))(h1:ℓ[i]?.join=some (.obj r))(ht:Nat.blt u ℓ.length=true)(hl:xs.length≤Zl)(he:∀x,Zg C elt (ℓ.set u (some (g x))) σ=some (.ok (.int (f x)),σ)) :
  Zg C (.comp elt u (.ex (.var i)) .nil) ℓ σ=some (.ok (.obj σ.length),σ++[.list ((xs.map f).map .int)]):=by
 have:=Yx (C:=C) (elt:=elt) (tg:=u) (it:=.ex (.var i)) (ifs:=.nil) (ℓ:=ℓ) g (fun x=>some (V.int (f x))) (Jc (Zb h1) hr) hr (Nat.le_of_ble_eq_true ht) hl fun x u_=>Ztb (α:=Unit) Zdg (he x)
 rwa [List.filterMap_eq_map',show (xs.map fun x=>V.int (f x))=(xs.map f).map .int by rw[List.map_map];rfl] at this
theorem Qt {i j:Nat}{l l':List Int}(h1:σ[i]?=some (.list (l.map .int)))(h2:σ[j]?=some (.list (l'.map .int)))(h:l.length+l'.length≤Zl):J1 .add (.obj i) (.obj j) σ=some (.obj σ.length,σ++[.list ((l++l').map .int)]):=by
 rw[Zdm h1 h2 (by rw[List.length_append,List.length_map,List.length_map];exact h),List.map_append]
end
theorem Zp9 {C:Cl}{a b c d:Ex}{x y z w:V}{o1 o2 o3:Cop}(ha:Zg C a ℓ σ=some (.ok x,σ))(hb:Zg C b ℓ σ=some (.ok y,σ))(hc:Zg C c ℓ σ=some (.ok z,σ))(hd:Zg C d ℓ σ=some (.ok w,σ))(h1:Z9 o1 x y σ=some true)(h2:Z9 o2 y z σ=some true)(h3:Z9 o3 z w σ=some true) :
  Zg C (.cmp a (.more o1 b (.more o2 c (.one o3 d)))) ℓ σ=some (.ok (.bool true),σ):=by
 refine (Zy ha).trans ((Zy hb).trans ?_)
 show (match Z9 o1 x y σ with
  | some true=>Zag C y (.more o2 c (.one o3 d)) ℓ σ
  | some false=>some (.ok (.bool false),σ)
  | .none=>.none)=_
 rw[h1]
 refine (Zy hc).trans ?_
 show (match Z9 o2 y z σ with
  | some true=>Zag C z (.one o3 d) ℓ σ
  | some false=>some (.ok (.bool false),σ)
  | .none=>.none)=_
 rw[h2]
 exact (Zy hd).trans (by show okX ((Z9 o3 z w σ).map V.bool) σ=_;rw[h3];rfl)
set_option tactic.hygienic true in
theorem Zqa {C:Cl}{a b:St}{r:Ss}{ℓ1:L}{y:Y}(h:execs C (.cons a (.cons b .nil)) ℓ σ=some (.next,ℓ1,σ1))(hr:execs C r ℓ1 σ1=y):execs C (.cons a (.cons b r)) ℓ σ=y:=by
 refine Jz (fun la sa ea ha=>?_) (Qr (show Qe (exec C a ℓ σ) _=_ from h))
 refine Jz (fun lb sb eb hb=>?_) (Qr (show Qe (exec C b la sa) _=_ from ha))
 refine rAA (fun u_ h1 h2=>?_) (pJ3 (show some (Fl.next,lb,sb)=some (Fl.next,ℓ1,σ1) from hb))
 subst h1;subst h2
 exact Zc ea (Zc eb hr)
theorem Zfy {pg:Pg}{d n k:Nat}{ps:List Nat}{B:Ss}{as:List V}{v:V}(hF:pg.fn n=some ⟨ps,k,B,.pure⟩)(hs:Ut ⟨ps,k,B,.pure⟩ as=some ℓ)(h:execs ⟨pg,Zh pg d⟩ B ℓ σ=some (.ret v,ℓ',σ'))(ht:∃t,σ'=σ++t)(hb:below σ.length v=true):Zh pg (d+1) n as σ=some (.ok v,σ):=by
 refine byC fun hX=>?_;obtain ⟨t,rfl⟩:=ht;refine hX ?_;clear hX;exact Zei hF hs h hb
theorem Zj9 {r:Nat}{G:List (Int×Int)}(h:σ[r]?=some (.list (G.map pv))){k:Nat}(hk:k<G.length):Yo σ (.obj r) (.int (k:Nat))=some (pv G[k]):=by
 rw[We h (by rw[List.length_map];exact hk),List.getElem_map]
theorem Zhu (k:Nat):(((k+1:Nat):Int)-1)=(k:Nat):=by rw[Int.natCast_add];exact Int.add_sub_cancel _ _
section
variable {pg:Pg}
set_option tactic.hygienic true in
theorem Zqb (h25:pg.fn 25=some ⟨[0],9,B25,.pure⟩)(h51:pg.fn 51=some ⟨[0,1],11,B51,.pure⟩)(h33:pg.fn 33=some ⟨[0,1],10,B33,.pure⟩)(h30:pg.fn 30=some ⟨[0,1,2],15,B30,.pure⟩)(d:Nat){lo hi:Int}{rg rk:Nat}{ts:List T3}{G:List (Int×Int)}(hG:Gp ts lo hi G)
  (hk:σ[rk]?=some (.list (ts.map T3.v))) (hg:σ[rg]?=some (.list (G.map pv))) (hl:ts.length≤1000) (hl2:G.length≤2000):Zh pg (d+3) 30 [.obj rg,.obj rk,.tup [.int lo,.int hi]] σ=some (.ok (.bool true),σ):=by
 have hlm:ts.length≤Zl:=Nat.le_trans hl (by decide)
 have hlg:G.length≤Zl:=Nat.le_trans hl2 (by decide)
 have p0:Zh pg (d+2) 51 [.obj rg,.int 2] σ=some (.ok (.bool true),σ):=Zdp h25 h51 d 2 (ll:=G.map pr) (fun is h=>by obtain ⟨x,_,rfl⟩:=List.mem_map.mp h;rfl) (by decide) (hg.trans (by rw[← Zn2];rfl))
 -- the places
 generalize hC:(⟨pg,Zh pg (d+2)⟩ : Cl)=C
 obtain ⟨ps,τ,e12,hps⟩ : ∃(ps:List Int) (τ:H),execs C (.cons Zrb (.cons Zrc .nil)) [some (.obj rg),some (.obj rk),some (.tup [.int lo,.int hi]),none,none,none,none,none,none,none,none,none,none,none,none] σ=some (.next,[some (.obj rg),some (.obj rk),some (.tup [.int lo,.int hi]),none,some (.obj (σ.length+τ.length)),none,none,none,none,none,none,none,none,none,none],σ++τ++[.list (ps.map .int)])∧ps.length≤Zl:=by
  generalize e1:σ++[O.list ([lo,hi].map V.int)]=s1
  have k1:s1[rk]?=some (.list (ts.map T3.v)):=e1▸Zj hk
  have g1:s1[rg]?=some (.list (G.map pv)):=e1▸Zj hg
  have l1:s1[σ.length]?=some (.list ([lo,hi].map V.int)):=e1▸gl σ _
  have a1:∀ℓ:L,ℓ[2]?.join=some (.tup [.int lo,.int hi])→Zg C (Ex.lst (Es.cons (Ex.idx (Ex.var 2) (Ex.lit (V.int 0))) (Es.cons (Ex.idx (Ex.var 2) (Ex.lit (V.int 1))) Es.nil))) ℓ σ=some (.ok (.obj σ.length),s1):=fun ℓ h=>e1▸Uj (Za (Zm h rfl) (Za (Zm h rfl) Ze)) rfl
  generalize en1:ts.map (fun x=>x.a-1)=n1
  generalize en2:ts.map (fun x=>x.b+1)=n2
  generalize en3:G.map (fun x=>x.1-1)=n3
  generalize en4:G.map (fun x=>x.2+1)=n4
  have z1:n1.length≤1000:=by rw[← en1,List.length_map];exact hl
  have z2:n2.length≤1000:=by rw[← en2,List.length_map];exact hl
  have z3:n3.length≤2000:=by rw[← en3,List.length_map];exact hl2
  have z4:n4.length≤2000:=by rw[← en4,List.length_map];exact hl2
  generalize e2:s1++[O.list (n1.map V.int)]=s2
  generalize e3:s2++[O.list (([lo,hi]++n1).map V.int)]=s3
  generalize e4:s3++[O.list (n2.map V.int)]=s4
  generalize e5:s4++[O.list (([lo,hi]++n1++n2).map V.int)]=s5
  generalize e6:s5++[O.list (n3.map V.int)]=s6
  generalize e7:s6++[O.list (([lo,hi]++n1++n2++n3).map V.int)]=s7
  generalize e8:s7++[O.list (n4.map V.int)]=s8
  have k3:s3[rk]?=some (.list (ts.map T3.v)):=e3▸Zj (e2▸Zj k1)
  have g5:s5[rg]?=some (.list (G.map pv)):=e5▸Zj (e4▸Zj (e3▸Zj (e2▸Zj g1)))
  have g7:s7[rg]?=some (.list (G.map pv)):=e7▸Zj (e6▸Zj g5)
  have c1:=Qt (σ:=s2) (i:=σ.length) (j:=s1.length) (e2▸Zj l1) (e2▸gl s1 _) (by simp only[List.length_cons,List.length_nil];unfold Zl;lia)
  have c2:=Qt (σ:=s4) (i:=s2.length) (j:=s3.length) (e4▸Zj (e3▸gl s2 _)) (e4▸gl s3 _) (by simp only[List.length_append,List.length_cons,List.length_nil];unfold Zl;lia)
  have c3:=Qt (σ:=s6) (i:=s4.length) (j:=s5.length) (e6▸Zj (e5▸gl s4 _)) (e6▸gl s5 _) (by simp only[List.length_append,List.length_cons,List.length_nil];unfold Zl;lia)
  have c4:=Qt (σ:=s8) (i:=s6.length) (j:=s7.length) (e8▸Zj (e7▸gl s6 _)) (e8▸gl s7 _) (by simp only[List.length_append,List.length_cons,List.length_nil];unfold Zl;lia)
  rw[e3] at c1;rw[e5] at c2;rw[e7] at c3
  obtain ⟨τ,hτ⟩ : ∃τ,s8=σ++τ:=by rw[← e8,← e7,← e6,← e5,← e4,← e3,← e2,← e1];simp only[List.append_assoc];exact ⟨_,rfl⟩
  refine ⟨[lo,hi]++n1++n2++n3++n4,τ,?_,by simp only[List.length_append,List.length_cons,List.length_nil];unfold Zl;lia⟩
  rw[← List.length_append,← hτ]
  refine Zc (Zx (Zi (Zi (a1 _ rfl) (e2▸en1▸X7 k1 rfl rfl hlm fun x=>Zi (Zm rfl rfl) Zf rfl) c1) (e4▸en2▸X7 k3 rfl rfl hlm fun x=>Zi (Zm rfl rfl) Zf rfl) c2) rfl) (Zv (Zx (Zi (Zi (Zb rfl) (e6▸en3▸X7 g5 rfl rfl hlg fun x=>Zi (Zm rfl rfl) Zf rfl) c3) (e8▸en4▸X7 g7 rfl rfl hlg fun x=>Zi (Zm rfl rfl) Zf rfl) c4) rfl))
 generalize es:σ++τ++[O.list (ps.map V.int)]=s9 at e12
 have k9:s9[rk]?=some (.list (ts.map T3.v)):=es▸Zj (Zj hk)
 have g9:s9[rg]?=some (.list (G.map pv)):=es▸Zj (Zj hg)
 have p9:s9[σ.length+τ.length]?=some (.list (ps.map .int)):=by rw[← es,← List.length_append];exact gl _ _
 generalize hn:σ.length+τ.length=np at e12 p9
 -- the gaps one by one
 refine Jz (fun ℓ4 τ4 f3 hO=>?_) (X6 (body:=execs C Zrd) (t:=5) (keep:=fun u_=>True) (σ:=s9) (fun k:Nat=>V.int (k:Nat)) (fun ℓ=>∃o p,ℓ=[some (.obj rg),some (.obj rk),some (.tup [.int lo,.int hi]),o,some (.obj np),p,none,none,none,none,none,none,none,none,none]) (fun u_=>trivial) (fun ℓ h=>by obtain ⟨o,p,rfl⟩:=h;exact Nat.le_of_ble_eq_true rfl) (List.range G.length) (fun k hkm ℓ τ h=>?_)
  [some (.obj rg),some (.obj rk),some (.tup [.int lo,.int hi]),none,some (.obj np),none,none,none,none,none,none,none,none,none,none] [] ⟨none,none,rfl⟩)
 rotate_left
 ·refine byC fun hX=>?_;obtain ⟨o,p,rfl⟩:=h;refine hX ?_;clear hX
  have hkl:=List.mem_range.mp hkm
  have hgk:=List.getElem_mem hkl
  have q1:=Zj9 (Zj (t:=τ) g9) hkl
  have in1:=hG.inn _ hgk
  have ec:=Zk6 (u:=8) (i:=1) (C:=C) (ℓ:=[some (.obj rg),some (.obj rk),some (.tup [.int lo,.int hi]),some (pv G[k]),some (.obj np),some (.int (k:Nat)),none,none,none,none,none,none,none,none,none]) (ifs:=(Es.cons (Ex.and (Ex.cmp (Ex.idx (Ex.var 8) (Ex.lit (V.int 0))) (Ch.one Cop.le (Ex.idx (Ex.var 3) (Ex.lit (V.int 1))))) (Ex.cmp (Ex.idx (Ex.var 3) (Ex.lit (V.int 0))) (Ch.one Cop.le (Ex.idx (Ex.var 8) (Ex.lit (V.int 1)))))) Es.nil)) (lo:=G[k].1) (hi:=G[k].2) (Zj (t:=τ) k9) rfl (Nat.le_of_ble_eq_true rfl) hl fun x=>X3 (Qo (Zk (Zm rfl rfl) (Zm rfl rfl) rfl) (Zk (Zm rfl rfl) (Zm rfl rfl) rfl))
  have hz:Zuo G[k].1 G[k].2 ts=[]:=List.filter_eq_nil_iff.mpr fun x hx h=>hG.off _ hgk x hx (by simpa using h)
  rw[hz] at ec
  have hand:Zg C (Ex.and (Ex.cmp (Ex.var 5) (Ch.one Cop.gt (Ex.lit (V.int 0)))) (Ex.cmp (Ex.bin Bop.add (Ex.idx (Ex.idx (Ex.var 0) (Ex.bin Bop.sub (Ex.var 5) (Ex.lit (V.int 1)))) (Ex.lit (V.int 1))) (Ex.lit (V.int 1))) (Ch.one Cop.ge (Ex.idx (Ex.var 3) (Ex.lit (V.int 0)))))) [some (.obj rg),some (.obj rk),some (.tup [.int lo,.int hi]),some (pv G[k]),some (.obj np),some (.int (k:Nat)),none,none,none,none,none,none,none,none,none] (s9++τ)=some (.ok (.bool false),s9++τ):=by
   cases k with
   | zero=>exact U4 (Zk (Zb rfl) Zf rfl)
   | succ k=>
    have hk':k<G.length:=Nat.lt_of_succ_lt hkl
    have sp:=List.pairwise_iff_getElem.mp hG.sep k (k+1) hk' hkl (Nat.lt_succ_self k)
    exact U3 (Zk (Zb rfl) Zf (gtT (Int.ofNat_lt.mpr (Nat.succ_pos k)))) (Zk (Zi (Y8 (Y8 (Zb rfl) (Zi (Zb rfl) Zf (Ye _ _ _)) (by rw[Zhu];exact Zj9 (Zj g9) hk')) Zf rfl) Zf rfl) (Zm rfl rfl) (geF (Int.not_le.mpr sp)))
  refine ⟨_,τ++[.list []],?_,some (pv G[k]),some (.int (k:Nat)),rfl⟩
  rw[← List.append_assoc]
  exact Zc (Zx (Y8 (Zb rfl) (Zb rfl) q1) rfl) (Zc (Zq (Wu (Zbq (Zp9 (Zm rfl rfl) (Zm rfl rfl) (Zm rfl rfl) (Zm rfl rfl) (leT in1.1) (leT in1.2.1) (leT in1.2.2))) hand) Zn) (Zv (Zq (Zk (Z6 (Za ec Ze) (Q2 (gl _ _))) Zf rfl) Zn)))
 revert hO;refine rEE fun o4 p4 hO=>?_;subst hO
 rw[List.append_nil] at f3
 -- the places one by one
 refine Jz (fun ℓ6 τ6 f4 u_=>?_) (X6 (body:=execs C Zre) (t:=6) (keep:=fun σ'=>σ'[np]?=some (.list (ps.map .int))) (σ:=s9) V.int (fun ℓ=>∃o,ℓ=[some (.obj rg),some (.obj rk),some (.tup [.int lo,.int hi]),o4,some (.obj np),p4,o,none,none,none,none,none,none,none,none]) (fun u_=>Zj p9) (fun ℓ h=>by obtain ⟨o,rfl⟩:=h;exact Nat.le_of_ble_eq_true rfl) ps (fun q u_ ℓ τ h=>?_)
  [some (.obj rg),some (.obj rk),some (.tup [.int lo,.int hi]),o4,some (.obj np),p4,none,none,none,none,none,none,none,none,none] τ4 ⟨none,rfl⟩)
 rotate_left
 ·refine byC fun hX=>?_;obtain ⟨o,rfl⟩:=h;refine hX ?_;clear hX
  refine ⟨_,τ,Zv (Zq ?_ Zn),some (.int q),rfl⟩
  have cd:=Zbo (C:=C) (ℓ:=[some (.obj rg),some (.obj rk),some (.tup [.int lo,.int hi]),o4,some (.obj np),p4,some (.int q),none,none,none,none,none,none,none,none]) (σ:=s9++τ) (a:=Ex.idx (Ex.var 2) (Ex.lit (V.int 0))) (b:=Ex.var 6) (c:=Ex.idx (Ex.var 2) (Ex.lit (V.int 1))) (op:=.le) (op':=.le) (x:=.int lo) (y:=.int q) (z:=.int hi) (Zm rfl rfl) (Zb rfl) (Zm rfl rfl) (Qq _ _ _) (Qq _ _ _)
  by_cases h1:lo≤q
  ·by_cases h2:q≤hi
   ·rw[decide_eq_true h1,decide_eq_true h2] at cd
    have ne:¬ ((ovr T3.a T3.b ts q:Int)+(ovr Prod.fst Prod.snd G q:Int)=0):=by
     rcases hG.cov q h1 h2 with e | e
     ·have:=Zj7 (fa:=T3.a) (fb:=T3.b) e;lia
     ·have:=Zj7 (fa:=Prod.fst) (fb:=Prod.snd) e;lia
    subst hC
    exact U3 cd (Zk (Zi (Zo (Za (Zb rfl) (Za (Zb rfl) Ze)) (Zj8 h33 Ztr (d+1) q (Zj k9) hlm)) (Zo (Za (Zb rfl) (Za (Zb rfl) Ze)) (Zj8 h33 Zyh (d+1) q (Zj g9) hlg)) (Z2 _ _ _)) Zf (eqF ne))
   ·rw[decide_eq_false h2,Bool.and_false] at cd;exact U4 cd
  ·rw[decide_eq_false h1] at cd;exact U4 cd
 subst hC
 have hlen:=Q2 g9
 rw[List.length_map] at hlen
 exact Zfy h30 rfl (Zc (Zq (Zbq (Zo (Za (Zb rfl) (Za Zf Ze)) p0)) Zn) (Zqa e12 (Zc ((Xj (Zbs (Z6 (Za (Zb rfl) Ze) hlen) hlg)).trans f3) (Zc ((Xj (Jc (Zb rfl) (Zj p9))).trans f4) (Zp (Z1 Zf)))))) ⟨τ++([.list (ps.map .int)]++τ6),by rw[← es,List.append_assoc,List.append_assoc]⟩ rfl
end
section
variable {pg:Pg}
theorem Zqc (h25:pg.fn 25=some ⟨[0],9,B25,.pure⟩)(h51:pg.fn 51=some ⟨[0,1],11,B51,.pure⟩)(h33:pg.fn 33=some ⟨[0,1],10,B33,.pure⟩)(h52:pg.fn 52=some ⟨[0,1,2],13,B52,.pure⟩)(d:Nat){lo hi:Int}{rk:Nat}{ts:List T3}{b:Int×Int}
  (hb:lo≤b.2∧b.2≤hi∧(U6 ts b.2:Int)=b.1∧∀q,lo≤q→q≤hi→(U6 ts q:Int)≤b.1∧((U6 ts q:Int)=b.1→b.2≤q)) (hle:lo≤hi) (hk:σ[rk]?=some (.list (ts.map T3.v))) (hl:ts.length≤1000):Zh pg (d+3) 52 [pv b,.obj rk,.tup [.int lo,.int hi]] σ=some (.ok (.bool true),σ):=by
 have hlm:ts.length≤Zl:=Nat.le_trans hl (by decide)
 revert hb;refine Zb8 fun b1 b2 b3 b4=>?_
 generalize e1:σ++[O.list [pv b]]=s1
 have k1:s1[rk]?=some (.list (ts.map T3.v)):=e1▸Zj hk
 have p1:Zh pg (d+2) 51 [.obj σ.length,.int 2] s1=some (.ok (.bool true),s1):=Zdp h25 h51 d 2 (ll:=[[b.1,b.2]]) (fun is h=>by rw[List.mem_singleton.mp h];rfl) (by decide) (e1▸gl σ _)
 have a1:∀ℓ:L,ℓ[0]?.join=some (pv b)→Zg ⟨pg,Zh pg (d+2)⟩ (Ex.lst (Es.cons (Ex.var 0) Es.nil)) ℓ σ=some (.ok (.obj σ.length),s1):=fun ℓ h=>e1▸Uj (Za (Zb h) Ze) rfl
 have rg:=Zbo (C:=⟨pg,Zh pg (d+2)⟩) (ℓ:=[some (pv b),some (.obj rk),some (.tup [.int lo,.int hi]),none,none,none,none,none,none,none,none,none,none]) (σ:=s1) (a:=Ex.idx (Ex.var 2) (Ex.lit (V.int 0))) (b:=Ex.idx (Ex.var 0) (Ex.lit (V.int 1))) (c:=Ex.idx (Ex.var 2) (Ex.lit (V.int 1))) (op:=.le) (op':=.le) (x:=.int lo) (y:=.int b.2) (z:=.int hi) (Zm rfl rfl) (Zm rfl rfl) (Zm rfl rfl) (leT b1) (leT b2)
 generalize e2:s1++[O.list ([lo].map V.int)]=s2
 have k2:s2[rk]?=some (.list (ts.map T3.v)):=e2▸Zj k1
 have ec := Yx (C := ⟨pg, Zh pg (d + 2)⟩) (elt := Ex.idx (Ex.var 6) (Ex.lit (V.int 0))) (tg := 6) (it := It.ex (Ex.var 1)) (ifs := Es.cons (Ex.cmp (Ex.idx (Ex.var 2) (Ex.lit (V.int 0))) (Ch.more Cop.le (Ex.idx (Ex.var 6) (Ex.lit (V.int 0))) (Ch.one Cop.le (Ex.idx (Ex.var 2) (Ex.lit (V.int 1)))))) Es.nil)
   (ℓ:=[some (pv b),some (.obj rk),some (.tup [.int lo,.int hi]),none,none,none,none,none,none,none,none,none,none]) (σ:=s2) T3.v (fun x=>if (decide (lo≤x.a)&&decide (x.a≤hi)) then some (V.int x.a) else none) (Jc (Zb rfl) k2) k2 (Nat.le_of_ble_eq_true rfl) hlm fun x u_=>Zcb (X3 (Zbo (Zm rfl rfl) (Zm rfl rfl) (Zm rfl rfl) (Qq _ _ _) (Qq _ _ _))) (Zm rfl rfl)
 rw[Yp,show (ts.filter fun x=>decide (lo≤x.a)&&decide (x.a≤hi)).map (fun x=>V.int x.a)=((ts.filter fun x=>decide (lo≤x.a)&&decide (x.a≤hi)).map (·.a)).map .int by rw[List.map_map];rfl] at ec
 have hps:∀q∈[lo]++(ts.filter fun x=>decide (lo≤x.a)&&decide (x.a≤hi)).map (·.a),lo≤q∧q≤hi:=fun q hq=>by
  rcases List.mem_cons.mp hq with rfl | hq
  ·exact ⟨Int.le_refl _,hle⟩
  ·refine byC fun hX=>?_;obtain ⟨x,hx,rfl⟩:=List.mem_map.mp hq;refine hX ?_;clear hX
   have:=(List.mem_filter.mp hx).2
   exact ⟨of_decide_eq_true (Ud this),of_decide_eq_true (W2 this)⟩
 have hpl:((ts.filter fun x=>decide (lo≤x.a)&&decide (x.a≤hi)).map (·.a)).length≤1000:=by rw[List.length_map];exact Nat.le_trans (List.length_filter_le _ _) hl
 generalize (ts.filter fun x=>decide (lo≤x.a)&&decide (x.a≤hi)).map (·.a)=ps at *
 generalize e3:s2++[O.list (ps.map V.int)]=s3 at ec
 have cc:=Qt (σ:=s3) (i:=s1.length) (j:=s2.length) (l:=[lo]) (l':=ps) (e3▸Zj (e2▸gl s1 _)) (e3▸gl s2 _) (by simp only[List.length_cons,List.length_nil];unfold Zl;lia)
 generalize e4:s3++[O.list (([lo]++ps).map V.int)]=s4 at cc
 have k4:s4[rk]?=some (.list (ts.map T3.v)):=e4▸Zj (e3▸Zj k2)
 have p4:s4[s3.length]?=some (.list (([lo]++ps).map V.int)):=e4▸gl s3 _
 refine Jz (fun ℓ' τ' f e=>?_) (X6 (body:=execs ⟨pg,Zh pg (d+2)⟩ Zrf) (t:=3) (keep:=fun σ'=>σ'[s3.length]?=some (.list (([lo]++ps).map V.int))) (σ:=s4) V.int (fun ℓ=>∃o p,ℓ=[some (pv b),some (.obj rk),some (.tup [.int lo,.int hi]),o,p,none,none,none,none,none,none,none,none]) (fun u_=>Zj p4) (fun ℓ h=>by obtain ⟨o,p,rfl⟩:=h;exact Nat.le_of_ble_eq_true rfl) ([lo]++ps) (fun q hq ℓ τ h=>?_)
  [some (pv b),some (.obj rk),some (.tup [.int lo,.int hi]),none,none,none,none,none,none,none,none,none,none] [] ⟨none,none,rfl⟩)
 ·rw[List.append_nil] at f
  have a2:∀ℓ:L,ℓ[2]?.join=some (.tup [.int lo,.int hi])→Zg ⟨pg,Zh pg (d+2)⟩ (Ex.lst (Es.cons (Ex.idx (Ex.var 2) (Ex.lit (V.int 0))) Es.nil)) ℓ s1=some (.ok (.obj s1.length),s2):=fun ℓ h=>e2▸Uj (Za (Zm h rfl) Ze) rfl
  exact Zfy h52 rfl (Zc (Zq (Wu (Zbq (Zo (Za (a1 _ rfl) (Za Zf Ze)) p1)) (Zbq rg)) Zn) (Zc (Zq (Zk (Zo (Za (Zb rfl) (Za (Zm rfl rfl) Ze)) (Zj8 h33 Ztr (d+1) b.2 k1 hlm)) (Zm rfl rfl) (neF b3)) Zn) (Zc ((Xj (Jc (Zi (a2 _ rfl) ec cc) p4)).trans f) (Zp (Z1 Zf)))))
   ⟨[.list [pv b]]++([.list ([lo].map V.int)]++([.list (ps.map V.int)]++([.list (([lo]++ps).map V.int)]++τ'))),by rw[← e4,← e3,← e2,← e1];simp only[List.append_assoc]⟩ rfl
 ·refine byC fun hX=>?_;obtain ⟨o,p,rfl⟩:=h;refine hX ?_;clear hX
  refine rA (fun q1 q2=>?_) (hps q hq)
  refine rA (fun q3 q4=>?_) (b4 q q1 q2)
  refine ⟨_,τ,Zc (Zx (Zo (Za (Zb rfl) (Za (Zb rfl) Ze)) (Zj8 h33 Ztr (d+1) q (Zj k4) hlm)) rfl) (Zv (Zq (Wu (Zk (Zb rfl) (Zm rfl rfl) (gtF (Int.not_lt.mpr q3))) ?_) Zn)),some (.int q),some (.int (ovr T3.a T3.b ts q)),rfl⟩
  by_cases c:(U6 ts q:Int)=b.1
  ·exact U3 (Zk (Zb rfl) (Zm rfl rfl) (eqT c)) (Zk (Zb rfl) (Zm rfl rfl) (clF (Int.not_lt.mpr (q4 c))))
  ·exact U4 (Zk (Zb rfl) (Zm rfl rfl) (eqF c))
set_option tactic.hygienic true in
theorem Zqd {C:Cl}{e:Ex}{i j k:Nat}{x y z:V}(h:Zg C e ℓ σ=some (.ok (.tup [x,y,z]),σ1))(hs:Uf [i,j,k] [x,y,z] ℓ=some ℓ'):exec C (.asg (.three i j k) e) ℓ σ=some (.next,ℓ',σ1) :=
 (Zcf h).trans (by show (Uf [i,j,k] [x,y,z] ℓ).map _=_;rw[hs];rfl)
theorem Zts {r:Nat}{l:List Int}(h:σ[r]?=some (.list (l.map V.int))):Wa .sum [.obj r] σ=some (.int l.sum,σ):=by
 show ((Yg σ (.obj r)).bind Ue).map _=_
 rw[Zs h];show (Ue (l.map V.int)).map _=_
 rw[Wn];rfl
theorem Zqe (h25:pg.fn 25=some ⟨[0],9,B25,.pure⟩)(h51:pg.fn 51=some ⟨[0,1],11,B51,.pure⟩)(h53:pg.fn 53=some ⟨[0,1],17,B53,.pure⟩)(d:Nat){rc rk:Nat}{ts cs:List T3}(hC:Cls ts cs)(ho:∀x∈ts,x.a≤x.b)
  (hk:σ[rk]?=some (.list (ts.map T3.v))) (hc:σ[rc]?=some (.list (cs.map T3.v))) (hl:ts.length≤1000):Zh pg (d+3) 53 [.obj rc,.obj rk] σ=some (.ok (.bool true),σ):=by
 have hlm:ts.length≤Zl:=Nat.le_trans hl (by decide)
 have hlc:cs.length≤Zl:=Nat.le_trans hC.len hlm
 have p0:Zh pg (d+2) 51 [.obj rc,.int 3] σ=some (.ok (.bool true),σ):=Zdp h25 h51 d 3 (ll:=cs.map fun t=>[t.a,t.b,t.c]) (fun is h=>by obtain ⟨x,_,rfl⟩:=List.mem_map.mp h;rfl) (by decide) (hc.trans (by rw[T3.v_tups]))
 generalize hCl:(⟨pg,Zh pg (d+2)⟩ : Cl)=C
 generalize e1:σ++[O.list ((cs.map (·.c)).map V.int)]=s1
 have k1:s1[rk]?=some (.list (ts.map T3.v)):=e1▸Zj hk
 have c1:s1[rc]?=some (.list (cs.map T3.v)):=e1▸Zj hc
 have l1:s1[σ.length]?=some (.list ((cs.map (·.c)).map V.int)):=e1▸gl σ _
 have a1:∀ℓ:L,ℓ[0]?.join=some (.obj rc)→10<ℓ.length→Zg C (Ex.comp (Ex.idx (Ex.var 10) (Ex.lit (V.int 2))) 10 (It.ex (Ex.var 0)) Es.nil) ℓ σ=some (.ok (.obj σ.length),s1):=fun ℓ h hl=>e1▸X7 hc h (Nat.ble_eq_true_of_le hl) hlc fun x=>Y8 (Zb (by rw[List.getElem?_set_self hl];rfl)) Zf rfl
 have hsum:=Zts l1
 rw[hC.sum] at hsum
 refine Jz (fun ℓ' τ' f e=>?_) (X6 (body:=execs C Zrg) (t:=3) (keep:=fun u_=>True) (σ:=s1) (fun k:Nat=>V.int (k:Nat)) (fun ℓ=>∃o2 o3 o4 o5 o6 o7 o8,ℓ=[some (.obj rc),some (.obj rk),o2,o3,o4,o5,o6,o7,o8,none,none,none,none,none,none,none,none]) (fun u_=>trivial) (fun ℓ h=>by obtain ⟨_,_,_,_,_,_,_,rfl⟩:=h;exact Nat.le_of_ble_eq_true rfl) (List.range cs.length) (fun k hkm ℓ τ h=>?_)
  [some (.obj rc),some (.obj rk),none,none,none,none,none,none,none,none,none,none,none,none,none,none,none] [] ⟨none,none,none,none,none,none,none,rfl⟩)
 ·rw[List.append_nil] at f
  subst hCl
  have hlen:=Wz c1
  exact Zfy h53 rfl (Zc (Zq (Wu (Zbq (Zo (Za (Zb rfl) (Za Zf Ze)) p0)) (Zk (Z6 (Za (a1 _ rfl (Nat.le_of_ble_eq_true rfl)) Ze) hsum) (Z6 (Za (Zb rfl) Ze) (Wz k1)) (neF rfl))) Zn) (Zc ((Xj (Zbs (Z6 (Za (Zb rfl) Ze) hlen) hlc)).trans f) (Zp (Z1 Zf)))) ⟨_,by rw[← e1,List.append_assoc]⟩ rfl
 ·refine byC fun hX=>?_;obtain ⟨o2,o3,o4,o5,o6,o7,o8,rfl⟩:=h;refine hX ?_;clear hX
  have hkl:=List.mem_range.mp hkm
  generalize hc0:cs[k]=c
  have hg:=hC.own ho c (hc0▸List.getElem_mem hkl)
  have q1:Yo (s1++τ) (.obj rc) (.int (k:Nat))=some c.v:=by rw[We (Zj c1) (by rw[List.length_map];exact hkl),List.getElem_map,hc0]
  have kt:(s1++τ)[rk]?=some (.list (ts.map T3.v)):=Zj k1
  have hand:∀(o7:Option V) (σ':H),σ'[rc]?=some (.list (cs.map T3.v))→Zg C (Ex.and (Ex.cmp (Ex.var 3) (Ch.one Cop.gt (Ex.lit (V.int 0)))) (Ex.cmp (Ex.idx (Ex.idx (Ex.var 0) (Ex.bin Bop.sub (Ex.var 3) (Ex.lit (V.int 1)))) (Ex.lit (V.int 1))) (Ch.one Cop.ge (Ex.var 4)))) [some (.obj rc),some (.obj rk),o2,some (.int (k:Nat)),some (.int c.a),some (.int c.b),some (.int c.c),o7,o8,none,none,none,none,none,none,none,none] σ'=some (.ok (.bool false),σ'):=fun o7 σ' h=>by
   cases k with
   | zero=>exact U4 (Zk (Zb rfl) Zf rfl)
   | succ k=>
    have hk':k<cs.length:=Nat.lt_of_succ_lt hkl
    have sp:=List.pairwise_iff_getElem.mp hC.apart k (k+1) hk' hkl (Nat.lt_succ_self k)
    rw[hc0] at sp
    exact U3 (Zk (Zb rfl) Zf (gtT (Int.ofNat_lt.mpr (Nat.succ_pos k)))) (Zk (Y8 (Y8 (Zb rfl) (Zi (Zb rfl) Zf (Ye _ _ _)) (by rw[Zhu,We h (by rw[List.length_map];exact hk'),List.getElem_map])) Zf rfl) (Zb rfl) (geF (Int.not_le.mpr sp)))
  -- the own ones
  have ec0:=Yx (C:=C) (elt:=Ex.var 10) (tg:=10) (it:=It.ex (Ex.var 1)) (ifs:=Es.cons (Ex.and (Ex.cmp (Ex.var 4) (Ch.one Cop.le (Ex.idx (Ex.var 10) (Ex.lit (V.int 0))))) (Ex.cmp (Ex.idx (Ex.var 10) (Ex.lit (V.int 1))) (Ch.one Cop.le (Ex.var 5)))) Es.nil)
   (ℓ:=[some (.obj rc),some (.obj rk),o2,some (.int (k:Nat)),some (.int c.a),some (.int c.b),some (.int c.c),o7,o8,none,none,none,none,none,none,none,none]) (σ:=s1++τ) T3.v (fun x=>if inC c x then some x.v else none) (Jc (Zb rfl) kt) kt (Nat.le_of_ble_eq_true rfl) hlm fun x u_=>Zcb (p:=inC c x) (X3 (Qo (Zk (Zb rfl) (Zm rfl rfl) (Qq _ _ _)) (Zk (Zm rfl rfl) (Zb rfl) (Qq _ _ _)))) (Zb rfl)
  rw[Yp] at ec0
  have hol:(ts.filter (inC c)).length≤Zl:=Nat.le_trans (List.length_filter_le _ _) hlm
  generalize ts.filter (inC c)=g at *
  have hpos:=List.length_pos_iff.mpr hg.ne
  generalize hs:s1++τ=s2 at *
  generalize e3:s2++[O.list (g.map T3.v)]=s3 at ec0
  have g3:s3[s2.length]?=some (.list (g.map T3.v)):=e3▸gl s2 _
  have c3:s3[rc]?=some (.list (cs.map T3.v)):=e3▸Zj (hs▸Zj c1)
  have hlg:=Wz g3
  generalize e4:s3++[O.list ((g.map (·.a)).map V.int)]=s4
  generalize e5:s4++[O.list ((g.map (·.b)).map V.int)]=s5
  have g4:s4[s2.length]?=some (.list (g.map T3.v)):=e4▸Zj g3
  have g5:s5[s2.length]?=some (.list (g.map T3.v)):=e5▸Zj g4
  have m1:Wa .min [.obj s3.length] s4=some (.int c.a,s4):=by
   refine rEA (fun m hm hma=>?_) hg.lo1
   exact Zp8 (e4▸gl s3 _) (fun y hy=>by obtain ⟨x,hx,rfl⟩:=List.mem_map.mp hy;exact hg.lo x hx) (List.mem_map.mpr ⟨m,hm,hma⟩)
  have m2:Wa .max [.obj s4.length] s5=some (.int c.b,s5):=by
   refine rEA (fun m hm hma=>?_) hg.hi1
   exact Zp7 (e5▸gl s4 _) (fun y hy=>by obtain ⟨x,hx,rfl⟩:=List.mem_map.mp hy;exact hg.hi x hx) (List.mem_map.mpr ⟨m,hm,hma⟩)
  -- each of them
  refine Jz (fun ℓ6 τ6 f6 h6=>?_) (X6 (body:=execs C I53) (t:=2) (keep:=fun σ'=>σ'[s2.length]?=some (.list (g.map T3.v))) (σ:=s5) T3.v (fun ℓ=>∃p2 p8,ℓ=[some (.obj rc),some (.obj rk),p2,some (.int (k:Nat)),some (.int c.a),some (.int c.b),some (.int c.c),some (.obj s2.length),p8,none,none,none,none,none,none,none,none]) (fun u_=>Zj g5) (fun ℓ h=>by obtain ⟨_,_,rfl⟩:=h;exact Nat.le_of_ble_eq_true rfl) g (fun x hx ℓ τ h=>?_)
   [some (.obj rc),some (.obj rk),o2,some (.int (k:Nat)),some (.int c.a),some (.int c.b),some (.int c.c),some (.obj s2.length),o8,none,none,none,none,none,none,none,none] [] ⟨o2,o8,rfl⟩)
  ·rw[List.append_nil] at f6
   revert h6;refine rEE fun p2 p8 h6=>?_;subst h6
   refine ⟨_,τ++([.list (g.map T3.v)]++([.list ((g.map (·.a)).map V.int)]++([.list ((g.map (·.b)).map V.int)]++τ6))),?_,p2,some (.int (k:Nat)),some (.int c.a),some (.int c.b),some (.int c.c),some (.obj s2.length),p8,rfl⟩
   rw[← List.append_assoc,hs,← List.append_assoc,e3,← List.append_assoc,e4,← List.append_assoc,e5]
   exact Zc (Zqd (Y8 (Zb rfl) (Zb rfl) q1) rfl) (Zc (Zx ec0 rfl) (Zc (Zq (Wu (Zk (Z6 (Za (Zb rfl) Ze) hlg) Zf (eqF (by lia))) (Wu (Zk (Z6 (Za (Zb rfl) Ze) hlg) (Zb rfl) (neF hg.cnt.symm)) (hand _ _ c3))) Zn)
    (Zc (Zq (Wu (Zk (Z6 (Za (e4▸X7 g3 rfl rfl hol fun x=>Zm rfl rfl) Ze) m1) (Zb rfl) (neF rfl)) (Zk (Z6 (Za (e5▸X7 g4 rfl rfl hol fun x=>Zm rfl rfl) Ze) m2) (Zb rfl) (neF rfl))) Zn)
    (Zv ((Xj (Jc (Zb rfl) g5)).trans f6)))))
  ·refine byC fun hX=>?_;obtain ⟨p2,p8,rfl⟩:=h;refine hX ?_;clear hX
   have gt:(s5++τ)[s2.length]?=some (.list (g.map T3.v)):=Zj g5
   have ec:=Yx (C:=C) (elt:=Ex.var 10) (tg:=10) (it:=It.ex (Ex.var 7)) (ifs:=Es.cons (Ex.cmp (Ex.idx (Ex.var 10) (Ex.lit (V.int 0))) (Ch.more Cop.le (Ex.idx (Ex.var 2) (Ex.lit (V.int 1))) (Ch.one Cop.lt (Ex.idx (Ex.var 10) (Ex.lit (V.int 1)))))) Es.nil)
    (ℓ:=[some (.obj rc),some (.obj rk),some x.v,some (.int (k:Nat)),some (.int c.a),some (.int c.b),some (.int c.c),some (.obj s2.length),p8,none,none,none,none,none,none,none,none]) (σ:=s5++τ) T3.v (fun y=>if (decide (y.a≤x.b)&&decide (x.b<y.b)) then some y.v else none) (Jc (Zb rfl) gt) gt (Nat.le_of_ble_eq_true rfl) hol fun y u_=>Zcb (X3 (Zbo (Zm rfl rfl) (Zm rfl rfl) (Zm rfl rfl) (Qq _ _ _) (Zs5 _ _ _))) (Zb rfl)
   rw[Yp] at ec
   have hov:x.b<c.b→0<(g.filter fun y=>decide (y.a≤x.b)&&decide (x.b<y.b)).length:=fun h1=>by
    refine rEA (fun y hy e=>?_) (hg.chain x hx h1)
    exact List.length_pos_of_mem (List.mem_filter.mpr ⟨hy,by rw[decide_eq_true e.1,decide_eq_true e.2];rfl⟩)
   generalize (g.filter fun y=>decide (y.a≤x.b)&&decide (x.b<y.b))=ov at *
   refine ⟨_,τ++[.list (ov.map T3.v)],?_,some x.v,some (.obj (s5++τ).length),rfl⟩
   rw[← List.append_assoc]
   refine Zc (Zx ec rfl) (Zv (Zq ?_ Zn))
   by_cases q:x.b<c.b
   ·exact U3 (Zk (Zm rfl rfl) (Zb rfl) (clT q)) (Zk (Z6 (Za (Zb rfl) Ze) (Wz (gl _ _))) Zf (eqF (by have:=hov q;lia)))
   ·exact U4 (Zk (Zm rfl rfl) (Zb rfl) (clF q))
end
noncomputable def Zws:St:=(.ret (.call 4 (.cons (.ucall 4 .v0 .nil) (.cons .v1 (.cons .v2 .nil)))))
noncomputable def B79:Ss:=.cons Zws <| .nil
noncomputable def Zwt:St:=(.ret (.call 5 (.cons (.ucall 4 .v0 .nil) .nil)))
noncomputable def B80:Ss:=.cons Zwt <| .nil
noncomputable def Zwu:St:=(.ret (.call 6 (.cons (.ucall 4 .v0 .nil) (.cons .v1 (.cons .v2 .nil)))))
noncomputable def B81:Ss:=.cons Zwu <| .nil
noncomputable def Zrh:St:=(.asg (.one 3) (.ucall 9 .v0 (.cons (.idx .v2 (.i 0)) (.cons (.idx .v2 (.i 1)) .nil))))
noncomputable def Zri:St:=(.asg (.one 4) (.ucall 10 .v0 .nil))
noncomputable def Zrj:St:=(.ife (.cmp (.blt .len (.cons .v1 .nil)) (.one .gt (.i 40))) (.cons (.ife (.or (.cmp .v3 (.one .ne (.call 54 (.cons .v1 (.cons (.idx .v2 (.i 0)) (.cons (.idx .v2 (.i 1)) .nil)))))) (.cmp .v4 (.one .ne (.call 55 (.cons .v1 .nil))))) (.cons (.ret (.lit (.bool false))) .nil) .nil) .nil) (.cons (.ife (.or (.not (.call 30 (.cons .v3 (.cons .v1 (.cons .v2 .nil))))) (.not (.call 53 (.cons .v4 (.cons .v1 .nil))))) (.cons (.ret (.lit (.bool false))) .nil) .nil) .nil))
noncomputable def Zrk:St:=(.asg (.one 5) (.tup (.cons (.blt .list (.cons .v3 .nil)) (.cons (.blt .list (.cons .v4 .nil)) .nil))))
noncomputable def Zrl:St:=(.expr (.mth .append .v3 (.cons (.tup (.cons (.i 0) (.cons (.i 0) .nil))) .nil)))
noncomputable def Zrm:St:=(.expr (.mth .append .v4 (.cons (.tup (.cons (.i 0) (.cons (.i 0) (.cons (.i 0) .nil)))) .nil)))
noncomputable def Zrn:St:=(.ife (.or (.cmp (.ucall 9 .v0 (.cons (.idx .v2 (.i 0)) (.cons (.idx .v2 (.i 1)) .nil))) (.one .ne (.idx .v5 (.i 0)))) (.cmp (.ucall 10 .v0 .nil) (.one .ne (.idx .v5 (.i 1))))) (.cons (.ret (.lit (.bool false))) .nil) .nil)
noncomputable def Zro:St:=(.ife (.or (.cmp .v3 (.one .ne (.bin .add (.idx .v5 (.i 0)) (.lst (.cons (.tup (.cons (.i 0) (.cons (.i 0) .nil))) .nil))))) (.cmp .v4 (.one .ne (.bin .add (.idx .v5 (.i 1)) (.lst (.cons (.tup (.cons (.i 0) (.cons (.i 0) (.cons (.i 0) .nil)))) .nil)))))) (.cons (.ret (.lit (.bool false))) .nil) .nil)
noncomputable def Zrp:St:=(.ret (.call 52 (.cons (.ucall 11 .v0 (.cons (.idx .v2 (.i 0)) (.cons (.idx .v2 (.i 1)) .nil))) (.cons .v1 (.cons .v2 .nil)))))
noncomputable def B44:Ss:=.cons Zrh <| .cons Zri <| .cons Zrj <| .cons Zrk <| .cons Zrl <| .cons Zrm <| .cons Zrn <| .cons Zro <| .cons Zrp <| .nil
theorem Zew (f:Nat)(σ:H):∀ll:List (List Int),(Z0 ll).mapM (toD (f+2) σ)=some (ll.map fun is=>PyData.tuple (is.map .int))
 | []=>rfl
 | is::r=>by
  show ((V.tup (is.map .int))::Z0 r).mapM (toD (f+2) σ)=_
  rw[List.mapM_cons,Zbd,Zew f σ r];rfl
theorem Zb7:∀ll:List (List Int),PyData.eqvAll (ll.map fun is=>PyData.tuple (is.map .int)) (ll.map fun is=>PyData.tuple (is.map .int))=true
 | []=>rfl
 | is::r=>by
  show (PyData.eqvAll (is.map .int) (is.map .int)&&PyData.eqvAll (r.map fun is=>PyData.tuple (is.map .int)) (r.map fun is=>PyData.tuple (is.map .int)))=true
  rw[X4,Zb7 r,decide_eq_true rfl];rfl
theorem Zka {n:Nat}{ll:List (List Int)}(h:σ[n]?=some (.list (Z0 ll))):toD 6 σ (.obj n)=some (.list (ll.map fun is=>PyData.tuple (is.map .int))):=by
 show (match σ[n]? with
  | some (.list l)=>(l.mapM (toD 5 σ)).map PyData.list
  | _=>none)=_
 rw[h]
 show ((Z0 ll).mapM (toD 5 σ)).map PyData.list=_
 rw[Zew 3];rfl
theorem Zby {m n:Nat}{ll:List (List Int)}(hm:σ[m]?=some (.list (Z0 ll)))(hn:σ[n]?=some (.list (Z0 ll))):Z9 .ne (.obj m) (.obj n) σ=some false:=by
 show (eqV σ (.obj m) (.obj n)).map (!·)=some false
 unfold eqV
 rw[Zka hm,Zka hn]
 show some (!PyData.eqvAll _ _)=_
 rw[Zb7];rfl
theorem Q3 (ll:List (List Int))(is:List Int):Z0 ll++[.tup (is.map .int)]=Z0 (ll++[is]):=by simp[Z0]
theorem Zex {n:Nat}{l:List V}(h:σ[n]?=some (.list l))(hl:l.length≤Zl):Wa .list [.obj n] σ=some (.obj σ.length,σ++[.list l]):=by
 show ((Zbh [V.obj n]).bind fun v=>(Yg σ v).bind fun l=>Yu σ l)=_
 rw[Xh,Option.bind_some,Zs h,Option.bind_some,Jv hl]
theorem Zkb {n:Nat}{l:List V}(h:σ[n]?=some (.list l))(hl:l.length<Zl)(x:V):W3 .append (.obj n) [x] σ=some (.none,σ.set n (.list (l++[x]))):=by
 simp only[W3,X9,Option.bind_some,Zs h,Zlj,Xh,if_pos hl,Yi]
theorem Zkc {τ:H}{n:Nat}{o:O}(h:σ.length≤n):∃τ',(σ++τ).set n o=σ++τ':=⟨_,List.set_append_right _ _ h⟩
structure P10 (pg:Pg):Prop extends PWd pg where
 f4:pg.fn 4=some ⟨[0,1,2],14,B4,.fresh⟩
 f5:pg.fn 5=some ⟨[0],12,B5,.fresh⟩
 f6:pg.fn 6=some ⟨[0,1,2],16,B6,.pure⟩
 f14:pg.fn 14=some ⟨[0,1,2],11,B14,.raw⟩
 f30:pg.fn 30=some ⟨[0,1,2],15,B30,.pure⟩
 f33:pg.fn 33=some ⟨[0,1],10,B33,.pure⟩
 f44:pg.fn 44=some ⟨[0,1,2],14,B44,.pure⟩
 f51:pg.fn 51=some ⟨[0,1],11,B51,.pure⟩
 f52:pg.fn 52=some ⟨[0,1,2],13,B52,.pure⟩
 f53:pg.fn 53=some ⟨[0,1],17,B53,.pure⟩
 f54:pg.fn 54=some ⟨[0,1,2],13,B54,.fresh⟩
 f55:pg.fn 55=some ⟨[0],12,B5,.fresh⟩
 f74:pg.fn 74=some ⟨[0],9,B74,.fresh⟩
 f79:pg.fn 79=some ⟨[0,1,2],11,B79,.fresh⟩
 f80:pg.fn 80=some ⟨[0],9,B80,.fresh⟩
 f81:pg.fn 81=some ⟨[0,1,2],11,B81,.pure⟩
 f84:pg.fn 84=some ⟨[0],9,B84,.fresh⟩
 m4:pg.mt 0 4=some 74
 m9:pg.mt 0 9=some 79
 m10:pg.mt 0 10=some 80
 m11:pg.mt 0 11=some 81
 m14:pg.mt 0 14=some 84
section
variable {pg:Pg}
theorem Zn3 (P:P10 pg)(d:Nat){lo hi:Int}(hl : -10^60<lo)(hle:lo≤hi)(hh:hi<10^60){t:Tr}{m:Int}(hw:Wd 1 0 σ t m)(hd:t.sz≤d)(hsz:t.sz<1000):Zh pg (d+4) 79 [.obj 1,.int lo,.int hi] σ=some (.ok (.obj σ.length),σ++[.list (prs (U1 hi t.tl lo []))]):=by
 have l:=Zbw P.f14 P.f84 P.f74 P.m14 d hw hd hsz
 have g:=Zp6 P.f1 P.f2 P.f4 d lo hi hl hle hh (σ++[.list (t.tl.map T3.v)]) σ.length t.tl (gl σ _) (by rw[Tr.sz_tl];exact Nat.le_of_lt hsz)
 have e:=gl (σ++[O.list (t.tl.map T3.v)]) (O.list (prs (U1 hi t.tl lo [])))
 rw[List.append_assoc] at g e
 exact Jy P.f79 rfl (Zp (Z1 (Zo (Za (Jt (Zb rfl) ((hw.mt 4).trans P.m4) Ze l) (Za (Zb rfl) (Za (Zb rfl) Ze))) g))) (by rw[List.length_append];exact Nat.le_add_right _ _) (Ww _ _) e
theorem Zir (P:P10 pg)(d:Nat){t:Tr}{m:Int}(hw:Wd 1 0 σ t m)(hd:t.sz≤d)(hsz:t.sz<1000):Zh pg (d+4) 80 [.obj 1] σ=some (.ok (.obj σ.length),σ++[.list ((clumps t.tl).map T3.v)]):=by
 have l:=Zbw P.f14 P.f84 P.f74 P.m14 d hw hd hsz
 have g:=Zet P.f5 (d+2) (σ++[.list (t.tl.map T3.v)]) σ.length t.tl (gl σ _) (by rw[Tr.sz_tl];exact Nat.le_of_lt hsz)
 have e:=gl (σ++[O.list (t.tl.map T3.v)]) (O.list ((clumps t.tl).map T3.v))
 rw[List.append_assoc] at g e
 exact Jy P.f80 rfl (Zp (Z1 (Zo (Za (Jt (Zb rfl) ((hw.mt 4).trans P.m4) Ze l) Ze) g))) (by rw[List.length_append];exact Nat.le_add_right _ _) (Jd _ _) e
theorem Zn4 (P:P10 pg)(d:Nat){lo hi:Int}(hl : -10^60<lo)(hle:lo≤hi)(hh:hi<10^60){t:Tr}{m:Int}(hw:Wd 1 0 σ t m)(hd:t.sz≤d)(hsz:t.sz<1000)(ho:∀x∈t.tl,x.a≤x.b):∃b:Int×Int,(lo≤b.2∧b.2≤hi∧(U6 t.tl b.2:Int)=b.1∧∀q,lo≤q→q≤hi→(U6 t.tl q:Int)≤b.1∧((U6 t.tl q:Int)=b.1→b.2≤q))∧Zh pg (d+4) 81 [.obj 1,.int lo,.int hi] σ=some (.ok (pv b),σ):=by
 have l:=Zbw P.f14 P.f84 P.f74 P.m14 d hw hd hsz
 refine rEA (fun b h g=>?_) (Ziq P.f1 P.f2 P.f6 d lo hi hl hle hh (σ++[.list (t.tl.map T3.v)]) σ.length t.tl ho (gl σ _) (by rw[Tr.sz_tl];exact Nat.le_of_lt hsz))
 exact ⟨b,Zn0 ho hle h,Zei P.f81 rfl (Zp (Z1 (Zo (Za (Jt (Zb rfl) ((hw.mt 4).trans P.m4) Ze l) (Za (Zb rfl) (Za (Zb rfl) Ze))) g))) rfl⟩
structure K44 (σ s:H)(n3 n4 n5 n6:Nat)(g' c' g c:List (List Int)):Prop where
 px:∃τ,s=σ++τ
 a3:s[n3]?=some (.list (Z0 g'))
 a4:s[n4]?=some (.list (Z0 c'))
 a5:s[n5]?=some (.list (Z0 g))
 a6:s[n6]?=some (.list (Z0 c))
theorem K44.app {s τ:H}{n3 n4 n5 n6:Nat}{g' c' g c:List (List Int)}(h:K44 σ s n3 n4 n5 n6 g' c' g c):K44 σ (s++τ) n3 n4 n5 n6 g' c' g c:=⟨h.px.elim fun τ' e=>⟨τ'++τ,by rw[e,List.append_assoc]⟩,Zj h.a3,Zj h.a4,Zj h.a5,Zj h.a6⟩
theorem Zwv {ts:List T3}(h:Srt3 ts):ts.Pairwise fun x y=>x.a≤y.a:=h.imp fun h=>(T3.lt_iff.mp h).elim Int.le_of_lt fun h=>Int.le_of_eq h.1
noncomputable def Xk (r:Nat)(lo hi:Int)(v3 v4 v5:Option V):L:=[some (.obj 1),some (.obj r),some (.tup [.int lo,.int hi]),v3,v4,v5,none,none,none,none,none,none,none,none]
set_option tactic.hygienic true in
theorem Zey (P:P10 pg)(d:Nat){lo hi:Int}(hl : -10^60<lo)(hle:lo≤hi)(hh:hi<10^60){t:Tr}{m:Int}{r:Nat}(S:Std σ t m r)(hd:t.sz≤d)(hsz:t.sz<1000) :
  Zh pg (d+5) 44 [.obj 1,.obj r,.tup [.int lo,.int hi]] σ=some (.ok (.bool true),σ):=by
 have htl:t.tl.length≤1000:=by rw[Tr.sz_tl];exact Nat.le_of_lt hsz
 have ho:∀x∈t.tl,x.a≤x.b:=fun x hx=>(S.ok x hx).2.1
 have hp:=Zwv S.srt
 have hG:U1 hi t.tl lo []=Qs hi t.tl lo:=Zdq hi t.tl lo []
 have hGp:=Zfx hi t.tl lo hp ho
 have hGl:=Nat.le_trans (Zdr hi t.tl lo) (Nat.add_le_add_right htl 1)
 have hC:=Zin t.tl hp ho
 have hCl:=Nat.le_trans hC.len htl
 generalize hgs:(Qs hi t.tl lo).map pr=gs
 generalize hcs:(clumps t.tl).map (fun x=>[x.a,x.b,x.c])=cs
 have lg:(Z0 gs).length≤1001:=by rw[← hgs];simp only[Z0,List.length_map];exact hGl
 have lcs:(Z0 cs).length≤1001:=by rw[← hcs];simp only[Z0,List.length_map];exact Nat.le_trans hCl (by decide)
 have wg:∀{s:H},Wd 1 0 s t m→Zh pg (d+4) 79 [.obj 1,.int lo,.int hi] s=some (.ok (.obj s.length),s++[.list (Z0 gs)]):=fun w=>by
  have:=Zn3 P d hl hle hh w hd hsz
  rw[hG,prs,hgs] at this;exact this
 have wc:∀{s:H},Wd 1 0 s t m→Zh pg (d+4) 80 [.obj 1] s=some (.ok (.obj s.length),s++[.list (Z0 cs)]):=fun w=>by
  have:=Zir P d w hd hsz
  rw[T3.v_tups,hcs] at this;exact this
 have mt:∀{s:H} (k:Nat),Wd 1 0 s t m→Xq pg s (.obj 1) k=pg.mt 0 k:=fun k w=>w.mt k
 generalize e1:σ++[O.list (Z0 gs)]=s1
 generalize e2:s1++[O.list (Z0 cs)]=s2
 have w1:Wd 1 0 s1 t m:=e1▸S.wd.app
 have g1:s1[σ.length]?=some (.list (Z0 gs)):=e1▸gl σ _
 have g2:s2[σ.length]?=some (.list (Z0 gs)):=e2▸Zj g1
 have c2:s2[s1.length]?=some (.list (Z0 cs)):=e2▸gl s1 _
 have p2:∃τ,s2=σ++τ:=⟨[_]++[_],by rw[← e2,← e1,List.append_assoc]⟩
 have k2:s2[r]?=some (.list (t.tl.map T3.v)):=p2.elim fun τ e=>e▸Zj S.kept
 have x0:exec ⟨pg,Zh pg (d+4)⟩ Zrh (Xk r lo hi none none none) σ=some (.next,Xk r lo hi (some (.obj σ.length)) none none,s1) :=
  Zx (Jt (Zb rfl) ((mt 9 S.wd).trans P.m9) (Za (Zm rfl rfl) (Za (Zm rfl rfl) Ze)) (e1▸wg S.wd)) rfl
 have x1:exec ⟨pg,Zh pg (d+4)⟩ Zri (Xk r lo hi (some (.obj σ.length)) none none) s1=some (.next,Xk r lo hi (some (.obj σ.length)) (some (.obj s1.length)) none,s2) :=
  Zx (Jt (Zb rfl) ((mt 10 w1).trans P.m10) Ze (e2▸wc w1)) rfl
 have x2:∃τ,exec ⟨pg,Zh pg (d+4)⟩ Zrj (Xk r lo hi (some (.obj σ.length)) (some (.obj s1.length)) none) s2=some (.next,Xk r lo hi (some (.obj σ.length)) (some (.obj s1.length)) none,s2++τ):=by
  by_cases h40:(40:Int)<(t.tl.length:Nat)
  ·have q1:=Znv P.f54 (d+3) lo hi s2 r t.tl k2 htl
   rw[← Zfw hi t.tl lo [] ho,hG,prs,hgs] at q1
   have q2:=Zet P.f55 (d+3) (s2++[O.list (Z0 gs)]) r t.tl (Zj k2) htl
   rw[T3.v_tups,hcs] at q2
   refine ⟨[O.list (Z0 gs)]++[O.list (Z0 cs)],?_⟩
   rw[← List.append_assoc]
   exact Z7 (Zk (Z6 (Za (Zb rfl) Ze) (Wz k2)) Zf (gtT h40)) (Zv (Zq (Wu (Zk (Zb rfl) (Zo (Za (Zb rfl) (Za (Zm rfl rfl) (Za (Zm rfl rfl) Ze))) q1) (Zby (Zj g2) (gl s2 _))) (Zk (Zb rfl) (Zo (Za (Zb rfl) Ze) q2) (Zby (Zj (Zj c2)) (gl _ _)))) Zn))
  ·have q1:=Zqb P.f25 P.f51 P.f33 P.f30 (d+1) hGp k2 (rg:=σ.length) (by rw[g2,← hgs,← Zn2];rfl) htl (Nat.le_trans hGl (by decide))
   have q2:=Zqe P.f25 P.f51 P.f53 (d+1) hC ho k2 (rc:=s1.length) (by rw[c2,← hcs,← T3.v_tups]) htl
   refine ⟨[],?_⟩
   rw[List.append_nil]
   exact Zq (Zk (Z6 (Za (Zb rfl) Ze) (Wz k2)) Zf (gtF h40)) (Zv (Zq (Wu (Zbq (Zo (Za (Zb rfl) (Za (Zb rfl) (Za (Zb rfl) Ze))) q1)) (Zbq (Zo (Za (Zb rfl) (Za (Zb rfl) Ze)) q2))) Zn))
 refine x2.elim fun τ x2=>?_
 generalize e3:s2++τ=s3 at x2
 generalize e4:s3++[O.list (Z0 gs)]=s4
 generalize e5:s4++[O.list (Z0 cs)]=s5
 have l1:s1.length=σ.length+1:=by rw[← e1,List.length_append];rfl
 have l2:s2.length=s1.length+1:=by rw[← e2,List.length_append];rfl
 have l3:s2.length≤s3.length:=by rw[← e3,List.length_append];exact Nat.le_add_right _ _
 have l4:s4.length=s3.length+1:=by rw[← e4,List.length_append];rfl
 have K5:K44 σ s5 σ.length s1.length s3.length s4.length gs cs gs cs:=by
  have g3:s3[σ.length]?=some (.list (Z0 gs)):=e3▸Zj g2
  have c3:s3[s1.length]?=some (.list (Z0 cs)):=e3▸Zj c2
  have g4:s4[s3.length]?=some (.list (Z0 gs)):=e4▸gl s3 _
  have c4:s5[s4.length]?=some (.list (Z0 cs)):=e5▸gl s4 _
  exact ⟨p2.elim fun τ' e=>⟨τ'++(τ++([O.list (Z0 gs)]++[O.list (Z0 cs)])),by rw[← e5,← e4,← e3,e];simp only[List.append_assoc]⟩,e5▸Zj (e4▸Zj g3),e5▸Zj (e4▸Zj c3),e5▸Zj g4,c4⟩
 have K6:K44 σ (s5.set σ.length (.list (Z0 gs++[.tup [.int 0,.int 0]]))) σ.length s1.length s3.length s4.length (gs++[[0,0]]) cs gs cs:=by
  refine ⟨K5.px.elim fun τ e=>e▸Zkc (Nat.le_refl _),?_,?_,?_,?_⟩
  ·rw[List.getElem?_set_self (List.getElem?_eq_some_iff.mp K5.a3).1,← Q3];rfl
  ·rw[List.getElem?_set_ne (by lia)];exact K5.a4
  ·rw[List.getElem?_set_ne (by lia)];exact K5.a5
  ·rw[List.getElem?_set_ne (by lia)];exact K5.a6
 generalize e6:s5.set σ.length (O.list (Z0 gs++[.tup [.int 0,.int 0]]))=s6 at K6
 have K7:K44 σ (s6.set s1.length (.list (Z0 cs++[zT.v]))) σ.length s1.length s3.length s4.length (gs++[[0,0]]) (cs++[[0,0,0]]) gs cs:=by
  refine ⟨K6.px.elim fun τ e=>e▸Zkc (by lia),?_,?_,?_,?_⟩
  ·rw[List.getElem?_set_ne (by lia)];exact K6.a3
  ·rw[List.getElem?_set_self (List.getElem?_eq_some_iff.mp K6.a4).1,← Q3];rfl
  ·rw[List.getElem?_set_ne (by lia)];exact K6.a5
  ·rw[List.getElem?_set_ne (by lia)];exact K6.a6
 generalize e7:s6.set s1.length (O.list (Z0 cs++[zT.v]))=s7 at K7
 have wd:∀{s:H}{n3 n4 n5 n6:Nat}{g' c' g c:List (List Int)},K44 σ s n3 n4 n5 n6 g' c' g c→Wd 1 0 s t m:=fun k=>k.px.elim fun τ e=>e▸S.wd.app
 have kp:∀{s:H}{n3 n4 n5 n6:Nat}{g' c' g c:List (List Int)},K44 σ s n3 n4 n5 n6 g' c' g c→s[r]?=some (.list (t.tl.map T3.v)):=fun k=>k.px.elim fun τ e=>e▸Zj S.kept
 have x3:exec ⟨pg,Zh pg (d+4)⟩ Zrk (Xk r lo hi (some (.obj σ.length)) (some (.obj s1.length)) none) s3=some (.next,Xk r lo hi (some (.obj σ.length)) (some (.obj s1.length)) (some (.tup [.obj s3.length,.obj s4.length])),s5) :=
  Zx (Y4 (Za (Z6 (Za (Zb rfl) Ze) (e4▸Zex (e3▸Zj g2) (Nat.le_trans lg (by decide)))) (Za (Z6 (Za (Zb rfl) Ze) (e5▸Zex (e4▸Zj (e3▸Zj c2)) (Nat.le_trans lcs (by decide)))) Ze)) rfl) rfl
 have x4:exec ⟨pg,Zh pg (d+4)⟩ Zrl (Xk r lo hi (some (.obj σ.length)) (some (.obj s1.length)) (some (.tup [.obj s3.length,.obj s4.length]))) s5=some (.next,Xk r lo hi (some (.obj σ.length)) (some (.obj s1.length)) (some (.tup [.obj s3.length,.obj s4.length])),s6) :=
  Y7 (Xd (Zb rfl) (Zs K5.a3) (Za (Y4 (Za Zf (Za Zf Ze)) rfl) Ze) (e6▸Zkb K5.a3 (Nat.lt_of_le_of_lt lg (by decide)) _))
 have x5:exec ⟨pg,Zh pg (d+4)⟩ Zrm (Xk r lo hi (some (.obj σ.length)) (some (.obj s1.length)) (some (.tup [.obj s3.length,.obj s4.length]))) s6=some (.next,Xk r lo hi (some (.obj σ.length)) (some (.obj s1.length)) (some (.tup [.obj s3.length,.obj s4.length])),s7) :=
  Y7 (Xd (Zb rfl) (Zs K6.a4) (Za (Zq5 _ _ _) Ze) (e7▸Zkb K6.a4 (Nat.lt_of_le_of_lt lcs (by decide)) _))
 generalize e8:s7++[O.list (Z0 gs)]=s8
 have K8:=K7.app (τ:=[O.list (Z0 gs)])
 rw[e8] at K8
 generalize e9:s8++[O.list (Z0 cs)]=s9
 have K9:=K8.app (τ:=[O.list (Z0 cs)])
 rw[e9] at K9
 have x6:exec ⟨pg,Zh pg (d+4)⟩ Zrn (Xk r lo hi (some (.obj σ.length)) (some (.obj s1.length)) (some (.tup [.obj s3.length,.obj s4.length]))) s7=some (.next,Xk r lo hi (some (.obj σ.length)) (some (.obj s1.length)) (some (.tup [.obj s3.length,.obj s4.length])),s9) :=
  Zq (Wu (Zk (Jt (Zb rfl) ((mt 9 (wd K7)).trans P.m9) (Za (Zm rfl rfl) (Za (Zm rfl rfl) Ze)) (e8▸wg (wd K7))) (Zm rfl rfl) (Zby (e8▸gl s7 _) K8.a5))
   (Zk (Jt (Zb rfl) ((mt 10 (wd K8)).trans P.m10) Ze (e9▸wc (wd K8))) (Zm rfl rfl) (Zby (e9▸gl s8 _) K9.a6))) Zn
 have lz:∀(ll:List (List Int)) (v:V),(Z0 ll).length≤1001→(Z0 ll++[v]).length≤Zl:=fun ll v h=>by rw[List.length_append];exact Nat.le_trans (Nat.add_le_add_right h 1) (by decide)
 generalize e10:s9++[O.list [.tup [.int 0,.int 0]]]=s10
 have K10:=K9.app (τ:=[O.list [.tup [.int 0,.int 0]]])
 rw[e10] at K10
 generalize e11:s10++[O.list (Z0 gs++[.tup [.int 0,.int 0]])]=s11
 have K11:=K10.app (τ:=[O.list (Z0 gs++[.tup [.int 0,.int 0]])])
 rw[e11] at K11
 generalize e12:s11++[O.list [zT.v]]=s12
 have K12:=K11.app (τ:=[O.list [zT.v]])
 rw[e12] at K12
 generalize e13:s12++[O.list (Z0 cs++[zT.v])]=s13
 have K13:=K12.app (τ:=[O.list (Z0 cs++[zT.v])])
 rw[e13] at K13
 have x7:exec ⟨pg,Zh pg (d+4)⟩ Zro (Xk r lo hi (some (.obj σ.length)) (some (.obj s1.length)) (some (.tup [.obj s3.length,.obj s4.length]))) s9=some (.next,Xk r lo hi (some (.obj σ.length)) (some (.obj s1.length)) (some (.tup [.obj s3.length,.obj s4.length])),s13):=by
  have n1:s11[s10.length]?=some (.list (Z0 (gs++[[0,0]]))):=by rw[← Q3];exact e11▸gl s10 _
  have n2:s13[s12.length]?=some (.list (Z0 (cs++[[0,0,0]]))):=by rw[← Q3];exact e13▸gl s12 _
  have b1:Zg ⟨pg,Zh pg (d+4)⟩ (Ex.lst (Es.cons (Ex.tup (Es.cons (Ex.lit (V.int 0)) (Es.cons (Ex.lit (V.int 0)) Es.nil))) Es.nil)) (Xk r lo hi (some (.obj σ.length)) (some (.obj s1.length)) (some (.tup [.obj s3.length,.obj s4.length]))) s9=some (.ok (.obj s9.length),s10):=e10▸Uj (Za (Y4 (Za Zf (Za Zf Ze)) rfl) Ze) rfl
  have b2:Zg ⟨pg,Zh pg (d+4)⟩ (Ex.lst (Es.cons (Ex.tup (Es.cons (Ex.lit (V.int 0)) (Es.cons (Ex.lit (V.int 0)) (Es.cons (Ex.lit (V.int 0)) Es.nil)))) Es.nil)) (Xk r lo hi (some (.obj σ.length)) (some (.obj s1.length)) (some (.tup [.obj s3.length,.obj s4.length]))) s11=some (.ok (.obj s11.length),s12):=e12▸Uj (Za (Zq5 _ _ _) Ze) rfl
  have d1:=Zdm K10.a5 (e10▸gl s9 _) (lz gs _ lg)
  have d2:=Zdm K12.a6 (e12▸gl s11 _) (lz cs _ lcs)
  rw[e11] at d1
  rw[e13] at d2
  exact Zq (Wu (Zk (Zb rfl) (Zi (Zm rfl rfl) b1 d1) (Zby K11.a3 n1)) (Zk (Zb rfl) (Zi (Zm rfl rfl) b2 d2) (Zby K13.a4 n2))) Zn
 refine rEA (fun b hb q=>?_) (Zn4 P d hl hle hh (wd K13) hd hsz ho)
 have x8:exec ⟨pg,Zh pg (d+4)⟩ Zrp (Xk r lo hi (some (.obj σ.length)) (some (.obj s1.length)) (some (.tup [.obj s3.length,.obj s4.length]))) s13=some (.ret (.bool true),Xk r lo hi (some (.obj σ.length)) (some (.obj s1.length)) (some (.tup [.obj s3.length,.obj s4.length])),s13) :=
  Z1 (Zo (Za (Jt (Zb rfl) ((mt 11 (wd K13)).trans P.m11) (Za (Zm rfl rfl) (Za (Zm rfl rfl) Ze)) q) (Za (Zb rfl) (Za (Zb rfl) Ze))) (Zqc P.f25 P.f51 P.f33 P.f52 (d+1) hb hle (kp K13) htl))
 exact Zfy P.f44 rfl (Zc x0 (Zc x1 (Zc x2 (Zc x3 (Zc x4 (Zc x5 (Zc x6 (Zc x7 (Zp x8))))))))) K13.px rfl
end
theorem Zn5 {A B C D E F:Type}{p0 p1 p2 p3 p4 p5:A→B→C→D→E→F→Prop}{P:Prop}(k:∀a b c d e f,p0 a b c d e f→p1 a b c d e f→p2 a b c d e f→p3 a b c d e f→p4 a b c d e f→p5 a b c d e f→P)(h:∃a b c d e f,p0 a b c d e f∧p1 a b c d e f∧p2 a b c d e f∧p3 a b c d e f∧p4 a b c d e f∧p5 a b c d e f):P:=Zit (fun a0 a1 a2 a3 a4 a5 b6=>k a0 a1 a2 a3 a4 a5 b6.1 b6.2.1 b6.2.2.1 b6.2.2.2.1 b6.2.2.2.2.1 b6.2.2.2.2.2) h
noncomputable def Zww:St:=(.ret (.slc .v5 .no (.yes (.blt .max (.cons (.i 40) (.cons (.bin .add (.blt .len (.cons .v2 .nil)) (.i 12)) .nil)))) .no))
noncomputable def B38:Ss:=.cons Znm <| .cons Znn <| .cons Zno <| .cons Zww <| .nil
noncomputable def Zwx:St:=(.asg (.one 1) (.new 0 .nil))
noncomputable def Zwy:St:=(.asg (.one 2) (.lst .nil))
noncomputable def Zwz:St:=(.asg (.one 3) (.call 38 (.cons .v0 (.cons (.i 1) (.cons (.call 37 (.cons (.call 16 (.cons .v0 (.cons (.i 0) .nil))) .nil)) .nil)))))
noncomputable def Zw0:St:=(.asg (.one 4) (.bin .add (.bin .mul (.call 16 (.cons .v0 (.cons (.i 0) .nil))) (.i 48271)) (.i 3)))
noncomputable def R60:Ss:=(.cons (.ife (.and (.cmp .v5 (.one .eq (.bin .fdiv (.blt .len (.cons .v3 .nil)) (.i 2)))) (.not (.call 44 (.cons .v1 (.cons .v2 (.cons (.call 29 (.cons .v4 (.cons (.lst .nil) .nil))) .nil)))))) (.cons (.ret (.lit (.bool false))) .nil) .nil) (.cons (.asg (.one 6) (.idx .v3 .v5)) (.cons (.ife (.not (.call 45 (.cons .v1 (.cons .v6 .nil)))) (.cons (.ret (.lit (.bool false))) .nil) .nil) (.cons (.asg (.one 2) (.call 39 (.cons .v2 (.cons .v6 .nil)))) .nil))))
noncomputable def Zw1:St:=(.for_ (.one 5) (.rng1 (.blt .len (.cons .v3 .nil))) R60)
noncomputable def Zw2:St:=(.ife (.not (.call 44 (.cons .v1 (.cons .v2 (.cons (.call 29 (.cons .v4 (.cons (.lst .nil) .nil))) .nil))))) (.cons (.ret (.lit (.bool false))) .nil) .nil)
noncomputable def Zw3:St:=(.ret (.call 44 (.cons .v1 (.cons .v2 (.cons (.call 29 (.cons (.bin .add .v4 (.i 48271)) (.cons .v2 .nil))) .nil)))))
noncomputable def B60:Ss:=.cons Zwx <| .cons Zwy <| .cons Zwz <| .cons Zw0 <| .cons Zw1 <| .cons Zw2 <| .cons Zw3 <| .nil
structure PL (pg:Pg):Prop extends P10 pg where
 f29:pg.fn 29=some ⟨[0,1],14,B29,.pure⟩
 f37:pg.fn 37=some ⟨[0],10,B37,.fresh⟩
 f38:pg.fn 38=some ⟨[0,1,2],15,B38,.fresh⟩
 f45:pg.fn 45=some ⟨[0,1],11,B45,.raw⟩
 f60:pg.fn 60=some ⟨[0],15,B60,.pure⟩
noncomputable def Zlc (scr:List Int)(rk rd:Nat)(c:Int)(v5 v6:Option V):L:=[some (.frz scr),some (.obj 1),some (.obj rk),some (.obj rd),some (.int c),v5,v6,none,none,none,none,none,none,none,none]
structure LI (scr:List Int)(rd:Nat)(c:Int)(D:List Dd)(r:List Nat)(ℓ:L)(σ:H):Prop where
 ex:∃k t m rk v5 v6,r=List.range' k (D.length-k)∧k≤D.length∧ℓ=Zlc scr rk rd c v5 v6∧Std σ t m rk∧t.sz≤k∧Cons t.tl (D.drop k)
 hd:σ[rd]?=some (.list (D.map ddV))
section
variable {pg:Pg}
theorem Zn6 (P:PL pg)(d:Nat){scr:List Int}(hb:∀x∈scr,x.natAbs<2^(2^20))(hsl:scr.length≤63){rb:Nat}{bg:List T3}(hrb:σ[rb]?=some (.list (bg.map T3.v)))(hbl:bg.length≤100)(hbn:bg.Nodup)(hbo:∀x∈bg,okT x) :
  ∃D:List Dd,Cons [] D∧D.length≤112∧Zh pg (d+3) 38 [.frz scr,.int 1,.obj rb] σ=some (.ok (.obj σ.length),σ++[.list (D.map ddV)]):=by
 refine Ze1 (fun D rd s3 ℓ e h5 h2 hc hd hb3 τ hτ=>?_) (Zim P.toPWd d 1 (by decide) hb hsl hrb hbl hbn hbo)
 obtain ⟨n,hn,hx⟩ : ∃n:Nat,n≤112∧Wa .max [.int 40,.int ((bg.length:Int)+12)] s3=some (.int (n:Nat),s3):=by
  by_cases h:(40:Int)<(bg.length:Int)+12
  ·exact ⟨bg.length+12,Nat.add_le_add_right hbl 12,by show some (V.int (if (40:Int)<(bg.length:Int)+12 then (bg.length:Int)+12 else 40),s3)=_;rw[if_pos h];rfl⟩
  ·exact ⟨40,by decide,by show some (V.int (if (40:Int)<(bg.length:Int)+12 then (bg.length:Int)+12 else 40),s3)=_;rw[if_neg h];rfl⟩
 refine ⟨D.take n,hc.take _,Nat.le_trans (by rw[List.length_take];exact Nat.min_le_left _ _) hn,?_⟩
 have g:=gl s3 (O.list ((D.take n).map ddV))
 have hle:σ.length≤s3.length:=by rw[hτ,List.length_append];exact Nat.le_add_right _ _
 have e4:s3++[O.list ((D.take n).map ddV)]=σ++(τ++[O.list ((D.take n).map ddV)]):=by rw[hτ,List.append_assoc]
 have x:execs ⟨pg,Zh pg (d+2)⟩ B38 [some (.frz scr),some (.int 1),some (.obj rb),none,none,none,none,none,none,none,none,none,none,none,none] σ=some (.ret (.obj s3.length),ℓ,s3++[O.list ((D.take n).map ddV)]) :=
  Ztl e (Zp (Z1 (Zni (Zb h5) rfl (Z6 (Za Zf (Za (Zi (Z6 (Za (Zb h2) Ze) (Wz hb3)) Zf (Z2 _ _ _)) Ze)) hx) rfl (Znr hd n (Nat.le_trans hn (by decide))))))
 rw[e4] at x g
 exact Jy P.f38 rfl x hle (Zer _ _) g
theorem Zkd (P:PL pg)(e:Nat)(c:Int){scr:List Int}{rd:Nat}{v5 v6:Option V}{t:Tr}{m:Int}{rk:Nat}(S:Std σ t m rk)(hd:t.sz≤e+1)(hsz:t.sz<1000) :
  ∃τ,Zg ⟨pg,Zh pg (e+6)⟩ (Ex.not (Ex.call 44 (Es.cons (Ex.var 1) (Es.cons (Ex.var 2) (Es.cons (Ex.call 29 (Es.cons (Ex.var 4) (Es.cons (Ex.lst Es.nil) Es.nil))) Es.nil))))) (Zlc scr rk rd c v5 v6) σ=some (.ok (.bool false),σ++τ):=by
 refine Xl (fun lo hi q ql qle qh=>?_) (Zjy P.f29 (e+5) c (σ:=σ++[.list (([]:List T3).map T3.v)]) (gl σ _))
 exact ⟨_,Zbq (Zo (Za (Zb rfl) (Za (Zb rfl) (Za (Zo (Za (Zb rfl) (Za (Uj Ze rfl) Ze)) q) Ze))) (Zey P.toP10 (e+1) ql qle qh S.app hd hsz))⟩
set_option tactic.hygienic true in
theorem Zw4 {C:Cl}{a b:Ex}{s:Ss}{p:Bool}(ha:Zg C a ℓ σ=some (.ok (.bool p),σ))(hb:∃τ,Zg C b ℓ σ=some (.ok (.bool false),σ++τ)):∃τ,exec C (.ife (.and a b) s .nil) ℓ σ=some (.next,ℓ,σ++τ):=by
 cases p with
 | false=>exact ⟨[],by rw[List.append_nil];exact Zq (U4 ha) Zn⟩
 | true=>exact hb.elim fun τ hb=>⟨τ,Zq (U3 ha hb) Zn⟩
set_option tactic.hygienic true in
theorem Zis (P:PL pg)(e:Nat){scr:List Int}{rd:Nat}{c:Int}(hrd:rd≠0){D:List Dd}(hD:D.length≤112)(he:112≤e)
  {x:Nat}{r:List Nat}{ℓ:L}{σ:H} (h:LI scr rd c D (x::r) ℓ σ):∃ℓ2 σ2,execs ⟨pg,Zh pg (e+6)⟩ R60 (ℓ.set 5 (some (.int (x:Nat)))) σ=some (.next,ℓ2,σ2)∧LI scr rd c D r ℓ2 σ2:=by
 refine byC fun hX=>?_;obtain ⟨hO0,hd⟩:=h;refine hX ?_;clear hX;revert hO0;refine Zn5 fun k t m rk v5 v6 hr hk hO9 S hsz hc=>?_;refine eqS hO9 ?_
 have hkl:k<D.length:=by
  rcases Nat.lt_or_ge k D.length with h | h
  ·exact h
  ·rw[Nat.sub_eq_zero_of_le h] at hr;cases hr
 have hr':x::r=k::List.range' (k+1) (D.length-(k+1)):=by
  rw[hr,show D.length-k=(D.length-(k+1))+1 by lia,List.range'_succ]
 refine rA (fun hx hr2=>?_) (List.cons.inj hr')
 subst hr2
 have hx':k=x:=hx.symm
 subst hx'
 rw[List.drop_eq_getElem_cons hkl] at hc
 have hse:t.sz≤e:=Nat.le_trans hsz (Nat.le_trans hk (Nat.le_trans hD he))
 have hs1:t.sz<1000:=Nat.lt_of_le_of_lt (Nat.le_trans hsz (Nat.le_trans hk hD)) (by decide)
 have q0:=Zw4 (C:=⟨pg,Zh pg (e+6)⟩) (s:=(Ss.cons (St.ret (Ex.lit (V.bool false))) Ss.nil)) (ℓ:=Zlc scr rk rd c (some (.int (k:Nat))) v6) (Zk (op:=.eq) (Zb (i:=5) rfl) (Zi (Z6 (Za (Zb (i:=3) rfl) Ze) (Zil hd)) Zf (Zt (fd 2) σ)) rfl) (Zkd P e c S (Nat.le_succ_of_le hse) hs1)
 refine q0.elim fun τ0 q0=>?_
 have S0:Std (σ++τ0) t m rk:=S.app
 have hd0:(σ++τ0)[rd]?=some (.list (D.map ddV)):=Zj hd
 generalize σ++τ0=σ0 at q0 S0 hd0
 refine Zf2 (fun σ' t' m' r' τ d1 b1 S' d7 c3 old=>?_) (Zp3 P.toPWd P.f45 e S0 hse hs1 hc)
 have gd:Yo σ0 (.obj rd) (.int (k:Nat))=some (ddV D[k]):=by rw[We hd0 (k:=k) (by rw[List.length_map];exact hkl),List.getElem_map]
 refine ⟨Zlc scr r' rd c (some (.int (k:Nat))) (some (ddV D[k])),σ'++τ,?_,⟨k+1,t',m',r',_,_,rfl,hkl,rfl,S',Nat.le_trans d7 (Nat.succ_le_succ hsz),c3⟩,old rd _ hrd hd0⟩
 exact Zc q0 (Zc (Zx (Y8 (Zb rfl) (Zb rfl) gd) rfl) (Zc (Zq (Zbq (Zo (Za (Zb rfl) (Za (Zb rfl) Ze)) d1)) Zn) (Zv (Zx (Zo (Za (Zb rfl) (Za (Zb rfl) Ze)) b1) rfl))))
set_option tactic.hygienic true in
theorem law10 (P:PL pg)(e:Nat)(he:112≤e)(scr:List Int)(hb:∀x∈scr,x.natAbs<2^(2^20))(hsl:scr.length≤63):Zh pg (e+7) 60 [.frz scr] []=some (.ok (.bool true),[]):=by
 refine rAA (fun g1 g2 g3=>?_) (Zpx (scr.getD 0 0))
 generalize e1:([.ns [(0,.none),(1,.int 0)],.inst 0 0]:H)=h1
 have w1:Wd 1 0 h1 .nil 0:=e1▸⟨rfl,rfl⟩
 have l1:h1.length=2:=e1▸rfl
 have i1:Zg ⟨pg,Zh pg (e+6)⟩ (.new 0 .nil) [some (.frz scr),none,none,none,none,none,none,none,none,none,none,none,none,none,none] []=some (.ok (.obj 1),h1):=e1▸Znb P.toP2 (e+5) _
 generalize e2:h1++[O.list []]=h2
 have w2:Wd 1 0 h2 .nil 0:=e2▸w1.app
 have r2:h2[h1.length]?=some (.list []):=e2▸gl h1 _
 have i2:∀ℓ:L,Zg ⟨pg,Zh pg (e+6)⟩ (.lst .nil) ℓ h1=some (.ok (.obj h1.length),h2):=fun ℓ=>e2▸Uj Ze rfl
 have l2:h2.length=3:=by rw[← e2,List.length_append,l1];rfl
 generalize e3:h2++[O.list ((Zdx (scr.getD 0 0)).map T3.v)]=h3
 have b3:h3[h2.length]?=some (.list ((Zdx (scr.getD 0 0)).map T3.v)):=e3▸gl h2 _
 have l3:h3.length=4:=by rw[← e3,List.length_append,l2];rfl
 have i3:=Zti P.f37 (e+5) (scr.getD 0 0) h2
 rw[e3] at i3
 refine J5 (fun D hc hD i4=>?_) (Zn6 P (e+3) hb hsl b3 g1 g2 g3)
 generalize e4:h3++[O.list (D.map ddV)]=h4 at i4
 have w4:Wd 1 0 h4 .nil 0:=e4▸Wd.app (e3▸w2.app)
 have r4:h4[h1.length]?=some (.list []):=e4▸Zj (e3▸Zj r2)
 have d4:h4[h3.length]?=some (.list (D.map ddV)):=e4▸gl h3 _
 have at0:∀(ℓ:L) (τ:H),ℓ[0]?.join=some (.frz scr)→Zg ⟨pg,Zh pg (e+6)⟩ (Ex.call 16 (Es.cons (Ex.var 0) (Es.cons (Ex.lit (V.int 0)) Es.nil))) ℓ τ=some (.ok (.int (scr.getD 0 0)),τ):=fun ℓ τ h=>Zo (Za (Zb h) (Za Zf Ze)) (Zum P.f16 (e+5) scr 0 τ)
 generalize ec:scr.getD 0 0*48271+3=c
 have i5:∀(ℓ:L) (τ:H),ℓ[0]?.join=some (.frz scr)→Zg ⟨pg,Zh pg (e+6)⟩ (Ex.bin Bop.add (Ex.bin Bop.mul (Ex.call 16 (Es.cons (Ex.var 0) (Es.cons (Ex.lit (V.int 0)) Es.nil))) (Ex.lit (V.int 48271))) (Ex.lit (V.int 3))) ℓ τ=some (.ok (.int c),τ):=fun ℓ τ h=>ec▸Zi (Zi (at0 ℓ τ h) Zf (Je (ml (by decide)) _)) Zf (Z2 _ _ _)
 obtain ⟨ℓ6,σ6,f6,L6⟩ : ∃ℓ' σ',Zaf (execs ⟨pg,Zh pg (e+6)⟩ R60) (.one 5) (fun u_=>True) ((List.range D.length).map fun k=>V.int (k:Nat)) (Zlc scr h1.length h3.length c none none) h4=some (.next,ℓ',σ')∧LI scr h3.length c D [] ℓ' σ':=by
  refine Wv (fun k:Nat=>V.int (k:Nat)) (fun r ℓ σ=>LI scr h3.length c D r ℓ σ) (fun ℓ σ=>LI scr h3.length c D [] ℓ σ) (fun ℓ σ h=>h) (fun x r ℓ σ h=>?_) (List.range D.length) _ h4 ⟨⟨0,.nil,0,h1.length,none,none,by rw[List.range_eq_range'];rfl,Nat.zero_le _,rfl,Zp4 w4 r4 (by rw[l1];decide),Nat.le_refl _,hc⟩,d4⟩
  refine Jz (fun ℓ2 σ2 x1 x2=>?_) (Zis P e (by rw[l3];decide) hD he h)
  refine ⟨?_,.inl ⟨ℓ2,σ2,x1,trivial,x2⟩⟩
  refine byC fun hX=>?_;obtain ⟨hO0,u1_⟩:=h;refine hX ?_;clear hX;refine byC fun hX=>?_;revert hO0;refine Xm fun k t m rk v5 v6 u7_ u8_ hO9 u10_=>?_;obtain rfl:=hO9;refine hX ?_;clear hX
  show 5<15;decide
 refine byC fun hX=>?_;obtain ⟨hO0,hd6⟩:=L6;refine hX ?_;clear hX;refine byC fun hX=>?_;revert hO0;refine Zn5 fun k t m rk v5 v6 hr hk hO9 S hsz u12_=>?_;obtain rfl:=hO9;refine hX ?_;clear hX
 have hse:t.sz≤e+1:=Nat.le_succ_of_le (Nat.le_trans hsz (Nat.le_trans hk (Nat.le_trans hD he)))
 have hs1:t.sz<1000:=Nat.lt_of_le_of_lt (Nat.le_trans hsz (Nat.le_trans hk hD)) (by decide)
 refine (Zkd P e c (scr:=scr) (rd:=h3.length) (v5:=v5) (v6:=v6) S hse hs1).elim fun τ q=>?_
 have S1:Std (σ6++τ) t m rk:=S.app
 refine Xl (fun lo hi q' ql qle qh=>?_) (Zjy P.f29 (e+5) (c+48271) S1.kept)
 refine Zs8 P.f60 rfl (ℓ':=Zlc scr rk h3.length c v5 v6) (t:=σ6++τ) ?_ rfl
 refine Zc (Zx i1 rfl) (Zc (Zx (i2 _) rfl) (Zc (Zx (Zo (Za (Zb rfl) (Za Zf (Za (Zo (Za (at0 _ _ rfl) Ze) i3) Ze))) i4) rfl) (Zc (Zx (i5 _ _ rfl) rfl) ?_)))
 refine Zc ((Xj (Zbs (Z6 (Za (Zb rfl) Ze) (Zil d4)) (Nat.le_trans hD (by decide)))).trans f6) (Zc (Zq q Zn) (Zp (Z1 ?_)))
 exact Zo (Za (Zb rfl) (Za (Zb rfl) (Za (Zo (Za (Zi (Zb rfl) Zf (Z2 _ _ _)) (Za (Zb rfl) Ze)) q') Ze))) (Zey P.toP10 (e+1) ql qle qh S1 hse hs1)
end
end Mini.Internal
open PySem PySem.W PyProof.Rows
set_option Elab.async false
namespace Mini.Internal
noncomputable def md10:Nat→Mode:=fun n=>if n=14∨n=45∨n=70∨n=71∨n=72 then .raw else if n=4∨n=5∨n=34∨n=36∨n=37∨n=38∨n=39∨n=54∨n=55∨n=74∨n=79∨n=80∨n=84 then .fresh else .pure
noncomputable def XP10 (mg:Str→Option Value)(h:Heap):Prop:=XL vw [] mg h∧Sub mg h
set_option maxRecDepth 100000 in
theorem Zn7:plainsOf vw (looseW vw [])≠[]:=List.ne_nil_of_length_pos (by decide +kernel)
noncomputable def wood:ClsRec:=(plainsOf vw (looseW vw [])).head Zn7
theorem wood_name:wood.name=Zjd:=by kernel_rfl
noncomputable abbrev Zyi:Pg:=Zpd bltNames md10 (recsOf vw) wood.withCmp.meths
set_option maxRecDepth 100000 in
theorem pg_ok:PL Zyi:=⟨⟨⟨⟨by kernel_rfl,by kernel_rfl,by kernel_rfl,by kernel_rfl,by kernel_rfl,by kernel_rfl,by kernel_rfl,by kernel_rfl,by kernel_rfl,by kernel_rfl,by kernel_rfl,by kernel_rfl,by kernel_rfl,by kernel_rfl,by kernel_rfl⟩,by kernel_rfl,by kernel_rfl,by kernel_rfl,by kernel_rfl,by kernel_rfl,by kernel_rfl,by kernel_rfl⟩,by kernel_rfl,by kernel_rfl,by kernel_rfl,by kernel_rfl,by kernel_rfl,by kernel_rfl,by kernel_rfl,by kernel_rfl,by kernel_rfl,by kernel_rfl,by kernel_rfl,by kernel_rfl,by kernel_rfl,by kernel_rfl,by kernel_rfl,by kernel_rfl,by kernel_rfl,by kernel_rfl,by kernel_rfl,by kernel_rfl,by kernel_rfl,by kernel_rfl⟩,by kernel_rfl,by kernel_rfl,by kernel_rfl,by kernel_rfl,by kernel_rfl⟩
end Mini.Internal
set_option tactic.hygienic true in
set_option maxRecDepth 100000 in
set_option maxHeartbeats 8000000 in
theorem PySem.Challenge.cw_uf060001_10_holds : PySem.Challenge.rw_uf060001_10.Holds := by
 w_on
 refine holds_law (by decide +kernel) fun said=>?_
 refine holds_open (q:=Mini.Internal.vw) (loose:=[]) (Xt:=Mini.Internal.Xt10) (XP:=Mini.Internal.XP10) (Yf:=Hook.obs Hook.none) (Ya:=Hook.val Hook.none) (YP:=Hook.says Hook.none) (N:=4000) Mini.Internal.left_ok (Hook.of Hook.none) (Hook.keeps Hook.none) (fun s e=>⟨xl_of s (Bool.and_eq_true_iff.mp (Bool.and_eq_true_iff.mp e).1).1,Mini.Internal.sub_of (Bool.and_eq_true_iff.mp e).2⟩) (fun mg h h' x k=>⟨XL.keeps mg h h' x.1 k,x.2.keeps k⟩) (by rfl) (by rfl) (by rfl) (fun s e=>recFacts_of (Bool.and_eq_true_iff.mp (Bool.and_eq_true_iff.mp e).1).2) (by rfl) said (by decide +kernel) ⟨rfl,rfl,rfl,rfl,rfl,by decide +kernel⟩ ?hw ?hc
 case hw=>w_witness2
 intro w s₀ s₁ mg mb G Y fa o pm cd doc dV kV ho hd hcd hD hmg hg args vals as hpre hlay hrd hwl hlo
 have hsub:=G.X.2
 refine Ground.open G ?_
 intro T B D TE TW
 wrow_args hpre hlay hrd hwl hlo
 rename_i scr hs hlay0 hLay hr1 hl2 wa4 wa3 ax vs wa0 hL ra w1 r0 hI hr hc1 hc0
 clear hd hcd hD ho Y
 obtain ⟨C,N,mN,hC,PA⟩:=TE Mini.Internal.wood (List.head_mem _)
 rw[Mini.Internal.wood_name] at hC
 obtain ⟨vs',hx,hv⟩:=Mini.Internal.well_ints (h':=s₁.heap) w1
 have hlen:scr.length≤63:=by omega
 refine Mini.Internal.law_end (σ' := []) (bl := Mini.Internal.bltNames) (md := Mini.Internal.md10) (d := 340) (n := 60) (x := Str.ofString "law") (fun u_ v_ h => h) T PA hC hsub _ w ?q1 ?q2 ?q6 ?q7 ?q8 Mini.Internal.rm_caller rfl (fun u_ v_ w_ => Mini.Internal.sort_ok) rfl hx hv ?q3 (by decide) rfl hmg ?q4 ?q5
 case q1=>decide +kernel
 case q2=>decide +kernel
 case q6=>decide +kernel
 case q7=>decide +kernel
 case q8=>decide +kernel
 case q3=>exact Nat.le_trans hlen (by decide)
 case q4=>exact Mini.Internal.law10 Mini.Internal.pg_ok 333 (by decide) scr (Mini.Internal.script_small hLay) hlen
 case q5=>
  intro s' k1 k2 k3
  exact GoodW.toG ⟨.inl ⟨_,.bool true,[],rfl,fun u_=>rfl,.bool _,by wrow_post,fun u_=>⟨List.nodup_nil,nofun⟩⟩,k1,k2,k3.trans hg⟩
