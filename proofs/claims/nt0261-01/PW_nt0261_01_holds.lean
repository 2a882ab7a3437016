import PyProof.Rows.All
import OpenK.KLine
import KE.KIsNot
import KE.KItem
import KE.KRevIter
import KE.KPairTest
import PyProof.StrLawsIn
import PySem.Challenge.RW_nt0261_01
set_option bootstrap.genMatcherCode false
set_option genSizeOf false
set_option compiler.extract_closed false
set_option backward.match.sparseCases false
set_option tactic.hygienic false
set_option genCtorIdx false
set_option genInjectivity false
set_option Elab.async false
set_option maxRecDepth 100000
set_option maxHeartbeats 1000000
set_option exponentiation.threshold 2000
set_option linter.all false

namespace Mine.Internal
@[elab_as_elim]theorem rwQ {α:Sort u}{a b:α}{P:α→Prop} (h:a=b) (x:P b):P a:=h▸x
@[elab_as_elim]theorem rwS {α:Sort u}{a b:α}{P:α→Prop} (h:b=a) (x:P b):P a:=h▸x
end Mine.Internal
open Lean in
local macro_rules (kind:=Lean.Parser.Command.mutual)|s=>if !s[1].getArgs.any fun c=>c[0].isOfKind ``Parser.Command.declModifiers&&!c[0][0].isNone then return mkNullNode (s[1].getArgs.map fun c=>let r:=c.rewriteBottomUp (·.setInfo .none);let d:=r[1];if r[0][4].isNone&&r[0].getNumArgs>4 then if d.isOfKind ``Parser.Command.definition then r.setArg 1 (mkNode ``Parser.Command.theorem #[mkAtom "theorem",d[1],mkNode ``Parser.Command.declSig #[d[2][0],d[2][1][0]],d[3]]) else if d.isOfKind ``Parser.Command.abbrev then (r.setArg 1 (mkNode ``Parser.Command.definition #[mkAtom "def",d[1],d[2],d[3],mkNullNode])).modifyArg 0 (·.setArg 4 (mkNullNode #[mkNode ``Parser.Command.noncomputable #[mkAtom "noncomputable"]])) else r else r) else Macro.throwUnsupported
open Lean in
local macro_rules (kind:=Lean.Parser.Tactic.cases)|s=>if s[2].isNone then Macro.throwUnsupported else return mkNode ``Parser.Tactic.induction #[mkAtom "induction",s[1],s[2],mkNullNode,s[3]]
open Lean in
local macro_rules (kind:=Lean.Parser.Tactic.tacticErw___)|s=>return mkNullNode (s[2][1].getSepArgs.map fun r=>mkNode ``Parser.Tactic.refine #[mkAtom "refine",Syntax.mkApp (mkIdent (if r[0].isNone then `Mine.Internal.rwQ else `Mine.Internal.rwS)) #[⟨mkNode ``Parser.Term.app #[r[1],mkNullNode #[mkNode ``Parser.Term.ellipsis #[mkAtom ".."]]]⟩,⟨mkNode ``Parser.Term.syntheticHole #[mkAtom "?",mkAtom "_"]⟩]])
open Lean in
local macro_rules
|`(command|universe $n*)=>return mkNode ``Parser.Command.mutual #[mkAtom "mutual",mkNullNode (←((Array.range' 43 1454).map (fun i=>`Mine.Internal.hd ++.mkSimple s!"{if #[51,87,116,184,210,236,262,288,314,340,366,417,443,468,493,518,543,604,672,719,748,809,883,942,999,1060,1079,1176,1202,1292,1341,1409,1482].contains i then "sts" else "o"}_1_{i}") ++ n.map fun i=>`Mine.Internal ++(match i.getId with|.str p "F"=>p.str "_f"|x=>x)).mapM fun c=>`(command|abbrev $(mkIdent (.mkSimple s!"tw{hash c}")) := True)),mkAtom "end"]
|`(tactic|refine $f:ident $as*)=>if f.getId.eraseMacroScopes== `PySem.W.holds_open then `(tactic|refine $(mkIdent `Mine.Internal.ho):ident $(as.extract 0 4 ++ as.extract 7 9 ++ as.extract 11 22)* ($(mkIdent `fin) (by exact rfl))) else Macro.throwUnsupported
open Array renaming ext'→q8, toList_append→uu
open Bool renaming and_eq_true_iff→ag, casesOn→aE, and_eq_true→cv, or_eq_false_iff→eO, false_eq_true→fF, not_eq_true'→gL, eq_false_iff→gM, or_eq_true_iff→jG, false_ne_true→nE
open Int renaming ofNat_le→bO, toNat_of_nonneg→bU, natCast_nonneg→fE, ofNat_lt→fW, fmod→gr, casesOn→iu, not_lt→jf, le_antisymm→jS, fdiv→lh, natCast_ne_zero→mO, lt_irrefl→o6, mul_le_mul→t7, not_le→wN, zero_mul→yX, zero_add→yY, add_zero→yZ, negSucc→B0
open Int.ofNat renaming inj→o5
open List renaming length_append→af, casesOn→au, append_assoc→aA, length_cons→aI, length_map→aK, mem_cons→aQ, all_eq_true→aS, getElem?_eq_some_iff→aT, mem_cons_self→bj, map_cons→bk, getElem?_eq_getElem→bl, map_append→bp, append_nil→bq, mem_append_right→bB, mem_of_getElem?→bM, mem_cons_of_mem→bN, nodup_cons→bR, replicate→cC, mem_map→cM, range→cR, mem_append_left→cT, getElem?_append_right→de, getElem?_append_left→dj, mem_append→dy, getElem?_toArray→dH, length_nil→dW, length_drop→d6, getElem?_map→eu, getElem?_eq_none→ey, filter_cons_of_pos→eJ, filter_cons_of_neg→eK, nodup_append→fb, getD_eq_getElem?_getD→fc, getElem?_eq_none_iff→fm, contains_iff_mem→fu, mem_singleton→fD, nil_append→fM, length_reverse→fR, lookup→f9, cons_ne_nil→gc, range'→iq, map_map→iC, length_set→iM, length→je, map_reverse→jj, cons_append→jk, mem_map_of_mem→jF, getElem?_set_self→k8, flatten_cons→k9, drop_eq_nil_of_le→lg, take_append_drop→lN, perm_middle→lU, not_mem_nil→lV, length_take→lW, getElem?_set_ne→mr, map_nil→mS, rec→nC, drop_zero→nD, reverse_cons→ox, length_range→oy, any_cons→oY, all_cons→oZ, take_length→qm, append_eq_nil_iff→q6, find?_cons→rF, dropLast_eq_take→rR, getElem?_drop→wM, isEmpty_iff→AN, eq_nil_of_length_eq_zero→BZ, zip_append→Dc
open List.cons renaming inj→dB
open Nat renaming le_of_ble_eq_true→ab, le_trans→aj, lt_of_lt_of_le→al, le_refl→aw, ne_of_lt→aC, eq_of_beq_eq_true→aV, beq→aW, zero_le→aX, le_add_right→bu, le_antisymm→bI, casesOn→bL, blt→cf, pow_le_pow_right→cp, min_le_right→cE, zero_lt_succ→cH, lt_succ_self→cI, blt_eq→cL, le_of_succ_le→dg, ble→dm, add_comm→dn, succ_le_succ→dA, sub_add_cancel→dU, le_of_lt→d5, le_add_left→eE, lt_of_le_of_lt→fC, beq_refl→fV, add_assoc→f6, add_right_comm→gq, lt_trans→gJ, le_succ_of_le→gK, not_lt→iA, le_of_eq→iB, min_eq_left→iK, le_max_left→iL, zero_add→jh, le_of_not_le→ji, lt_irrefl→jQ, succ_pos→k6, lt_succ_of_le→k7, le_max_right→lT, add_le_add_left→mN, sub_self→mR, lt_succ_of_lt→ou, le_succ→ow, max_eq_right→qk, lt_add_of_pos_right→ql, sub_eq_zero_of_le→rP, ble_eq_true_of_le→rQ, sub_le_sub_right→t5, add_le_add_right→t6, sub_le→wI, pos_of_ne_zero→wJ, max_le→wK, add_sub_cancel→wL, zero_mul→yT, lt_or_ge→yU, le_of_lt_succ→yV, gcd→yW, succ_ne_zero→AJ, not_le_of_lt→AK, min_eq_right→AL, max_eq_left→Da
open Nat.succ renaming inj→qZ
open Option renaming casesOn→bb, map_eq_some_iff→bK, bind_eq_some_iff→ct, any_eq_true→iz, isNone_iff_eq_none→jm, isSome_iff_exists→jP, map→qY
open Option.some renaming inj→ae
open Or renaming casesOn→cV
open Prod.mk renaming inj→aH
open PySem renaming wpAny_bind→aF, wpAny_pure→bJ, wpAny_holding→bW, behindInMarks→cY, compareOp→dI, wpAny_mono→dN, wpAny_standAt→d9, strIterType→eX, strValues→fI, foldedSetIterable→fJ, starEach→fS, assignInOrder→gD, letOwnedTupleGo→hW, assignEach→jA, partValue→kK, sizeLine→ly
open PySem.Builtin renaming divisionGoesByPylong→De
open PySem.Builtin.Int renaming intBits→gV
open PySem.Builtin.List renaming listExtendWith→Dm
open PySem.Builtin.Range renaming small→cw, rangeSize→eN
open PySem.Builtin.Str renaming strSliceIndices→dM, occurrences→hU
open PySem.Expr renaming casesOn→bD
open PySem.Heap renaming get?_none_of_le→bP, get?_push_of_some→cG, get?_push_size→dD, SameBut→fe, dictOf_iff→rG, get?_update_self→rS
open PySem.Heap.SameBut renaming update→ur
open PySem.Str renaming ofString→aa, join→qj, cps_append→tX
open PySem.Value renaming casesOn→gO, str→AF
namespace Mine.Internal
mutual
def OW{A:Sort _}{P:A->Prop}{C:Prop}(h:∃a,P a)(k:∀a,P a->C):C:=h.elim λa h=>k a h
def M3{A B:Sort _}{P:A->B->Prop}{C:Prop}(h:∃a b,P a b)(k:∀a b,P a b->C):C:=h.elim λa h=>h.elim λb h=>k a b h
def M0{A B D:Sort _}{P:A->B->D->Prop}{C:Prop}(h:∃a b c,P a b c)(k:∀a b c,P a b c->C):C:=h.elim λa h=>h.elim λb h=>h.elim λc h=>k a b c h
def MZ{A B D E:Sort _}{P:A->B->D->E->Prop}{C:Prop}(h:∃a b c d,P a b c d)(k:∀a b c d,P a b c d->C):C:=h.elim λa h=>h.elim λb h=>h.elim λc h=>h.elim λd h=>k a b c d h
def PO{A B D E F:Sort _}{P:A->B->D->E->F->Prop}{C:Prop}(h:∃a b c d e,P a b c d e)(k:∀a b c d e,P a b c d e->C):C:=h.elim λa h=>h.elim λb h=>h.elim λc h=>h.elim λd h=>h.elim λe h=>k a b c d e h
def SZ{A B D E F G:Sort _}{P:A->B->D->E->F->G->Prop}{C:Prop}(h:∃a b c d e f,P a b c d e f)(k:∀a b c d e f,P a b c d e f->C):C:=h.elim λa h=>h.elim λb h=>h.elim λc h=>h.elim λd h=>h.elim λe h=>h.elim λf h=>k a b c d e f h
def SY{A B D E F G I:Sort _}{P:A->B->D->E->F->G->I->Prop}{C:Prop}(h:∃a b c d e f g,P a b c d e f g)(k:∀a b c d e f g,P a b c d e f g->C):C:=h.elim λa h=>h.elim λb h=>h.elim λc h=>h.elim λd h=>h.elim λe h=>h.elim λf h=>h.elim λg h=>k a b c d e f g h
def TM{A B D E F G I J:Sort _}{P:A->B->D->E->F->G->I->J->Prop}{C:Prop}(h:∃a b c d e f g i,P a b c d e f g i)(k:∀a b c d e f g i,P a b c d e f g i->C):C:=h.elim λa h=>h.elim λb h=>h.elim λc h=>h.elim λd h=>h.elim λe h=>h.elim λf h=>h.elim λg h=>h.elim λi h=>k a b c d e f g i h
def TK{A B D E F G I J K:Sort _}{P:A->B->D->E->F->G->I->J->K->Prop}{C:Prop}(h:∃a b c d e f g i j,P a b c d e f g i j)(k:∀a b c d e f g i j,P a b c d e f g i j->C):C:=h.elim λa h=>h.elim λb h=>h.elim λc h=>h.elim λd h=>h.elim λe h=>h.elim λf h=>h.elim λg h=>h.elim λi h=>h.elim λj h=>k a b c d e f g i j h
def M7{P Q C:Prop}(h:P/\Q)(k:P->Q->C):C:=k h.1 h.2
def M6{P Q R C:Prop}(h:P/\Q/\R)(k:P->Q->R->C):C:=k h.1 h.2.1 h.2.2
def Py{P Q R S C:Prop}(h:P/\Q/\R/\S)(k:P->Q->R->S->C):C:=k h.1 h.2.1 h.2.2.1 h.2.2.2
def M5{P Q R S T C:Prop}(h:P/\Q/\R/\S/\T)(k:P->Q->R->S->T->C):C:=k h.1 h.2.1 h.2.2.1 h.2.2.2.1 h.2.2.2.2
def Px{P Q R S T U C:Prop}(h:P/\Q/\R/\S/\T/\U)(k:P->Q->R->S->T->U->C):C:=k h.1 h.2.1 h.2.2.1 h.2.2.2.1 h.2.2.2.2.1 h.2.2.2.2.2
def M4{P Q R S T U V C:Prop}(h:P/\Q/\R/\S/\T/\U/\V)(k:P->Q->R->S->T->U->V->C):C:=k h.1 h.2.1 h.2.2.1 h.2.2.2.1 h.2.2.2.2.1 h.2.2.2.2.2.1 h.2.2.2.2.2.2
def Uw{P Q R S T U V W C:Prop}(h:P/\Q/\R/\S/\T/\U/\V/\W)(k:P->Q->R->S->T->U->V->W->C):C:=k h.1 h.2.1 h.2.2.1 h.2.2.2.1 h.2.2.2.2.1 h.2.2.2.2.2.1 h.2.2.2.2.2.2.1 h.2.2.2.2.2.2.2
def eC{P Q R:Prop}(h1:P)(h2:Q)(h3:R):P/\Q/\R:=⟨h1,h2,h3⟩
def Ad{P Q R S:Prop}(h1:P)(h2:Q)(h3:R)(h4:S):P/\Q/\R/\S:=⟨h1,h2,h3,h4⟩
def v9{P Q R S T:Prop}(h1:P)(h2:Q)(h3:R)(h4:S)(h5:T):P/\Q/\R/\S/\T:=⟨h1,h2,h3,h4,h5⟩
def QJ{P Q R S T U:Prop}(h1:P)(h2:Q)(h3:R)(h4:S)(h5:T)(h6:U):P/\Q/\R/\S/\T/\U:=⟨h1,h2,h3,h4,h5,h6⟩
def QI{P Q R S T U V W:Prop}(h1:P)(h2:Q)(h3:R)(h4:S)(h5:T)(h6:U)(h7:V)(h8:W):P/\Q/\R/\S/\T/\U/\V/\W:=⟨h1,h2,h3,h4,h5,h6,h7,h8⟩
def bH{A:Sort _}{P Q:A->Prop}(a:A)(h1:P a)(h2:Q a):∃a,P a/\Q a:=⟨a,h1,h2⟩
def eF{A:Sort _}{P Q R:A->Prop}(a:A)(h1:P a)(h2:Q a)(h3:R a):∃a,P a/\Q a/\R a:=⟨a,h1,h2,h3⟩
def CG{A:Sort _}{P Q R S:A->Prop}(a:A)(h1:P a)(h2:Q a)(h3:R a)(h4:S a):∃a,P a/\Q a/\R a/\S a:=⟨a,h1,h2,h3,h4⟩
def QH{A:Sort _}{P Q R S T:A->Prop}(a:A)(h1:P a)(h2:Q a)(h3:R a)(h4:S a)(h5:T a):∃a,P a/\Q a/\R a/\S a/\T a:=⟨a,h1,h2,h3,h4,h5⟩
def ug{A B:Sort _}{P:A->B->Prop}(a:A)(b:B)(h1:P a b):∃a b,P a b:=⟨a,b,h1⟩
def kS{A B:Sort _}{P Q:A->B->Prop}(a:A)(b:B)(h1:P a b)(h2:Q a b):∃a b,P a b/\Q a b:=⟨a,b,h1,h2⟩
def i5{A B:Sort _}{P Q R:A->B->Prop}(a:A)(b:B)(h1:P a b)(h2:Q a b)(h3:R a b):∃a b,P a b/\Q a b/\R a b:=⟨a,b,h1,h2,h3⟩
def d0{A B:Sort _}{P Q R S:A->B->Prop}(a:A)(b:B)(h1:P a b)(h2:Q a b)(h3:R a b)(h4:S a b):∃a b,P a b/\Q a b/\R a b/\S a b:=⟨a,b,h1,h2,h3,h4⟩
def CE{A B:Sort _}{P Q R S T:A->B->Prop}(a:A)(b:B)(h1:P a b)(h2:Q a b)(h3:R a b)(h4:S a b)(h5:T a b):∃a b,P a b/\Q a b/\R a b/\S a b/\T a b:=⟨a,b,h1,h2,h3,h4,h5⟩
def HR{A B:Sort _}{P Q R S T U:A->B->Prop}(a:A)(b:B)(h1:P a b)(h2:Q a b)(h3:R a b)(h4:S a b)(h5:T a b)(h6:U a b):∃a b,P a b/\Q a b/\R a b/\S a b/\T a b/\U a b:=⟨a,b,h1,h2,h3,h4,h5,h6⟩
def HQ{A B D:Sort _}{P:A->B->D->Prop}(a:A)(b:B)(c:D)(h1:P a b c):∃a b c,P a b c:=⟨a,b,c,h1⟩
def Ac{A B D:Sort _}{P Q:A->B->D->Prop}(a:A)(b:B)(c:D)(h1:P a b c)(h2:Q a b c):∃a b c,P a b c/\Q a b c:=⟨a,b,c,h1,h2⟩
def LC{A B D:Sort _}{P Q R:A->B->D->Prop}(a:A)(b:B)(c:D)(h1:P a b c)(h2:Q a b c)(h3:R a b c):∃a b c,P a b c/\Q a b c/\R a b c:=⟨a,b,c,h1,h2,h3⟩
def pR{A B D:Sort _}{P Q R S:A->B->D->Prop}(a:A)(b:B)(c:D)(h1:P a b c)(h2:Q a b c)(h3:R a b c)(h4:S a b c):∃a b c,P a b c/\Q a b c/\R a b c/\S a b c:=⟨a,b,c,h1,h2,h3,h4⟩
def iR{A B D:Sort _}{P Q R S T:A->B->D->Prop}(a:A)(b:B)(c:D)(h1:P a b c)(h2:Q a b c)(h3:R a b c)(h4:S a b c)(h5:T a b c):∃a b c,P a b c/\Q a b c/\R a b c/\S a b c/\T a b c:=⟨a,b,c,h1,h2,h3,h4,h5⟩
def LB{A B D:Sort _}{P Q R S T U:A->B->D->Prop}(a:A)(b:B)(c:D)(h1:P a b c)(h2:Q a b c)(h3:R a b c)(h4:S a b c)(h5:T a b c)(h6:U a b c):∃a b c,P a b c/\Q a b c/\R a b c/\S a b c/\T a b c/\U a b c:=⟨a,b,c,h1,h2,h3,h4,h5,h6⟩
def QG{A B D E:Sort _}{P:A->B->D->E->Prop}(a:A)(b:B)(c:D)(d:E)(h1:P a b c d):∃a b c d,P a b c d:=⟨a,b,c,d,h1⟩
def QF{A B D E:Sort _}{P Q:A->B->D->E->Prop}(a:A)(b:B)(c:D)(d:E)(h1:P a b c d)(h2:Q a b c d):∃a b c d,P a b c d/\Q a b c d:=⟨a,b,c,d,h1,h2⟩
def yg{A B D E:Sort _}{P Q R:A->B->D->E->Prop}(a:A)(b:B)(c:D)(d:E)(h1:P a b c d)(h2:Q a b c d)(h3:R a b c d):∃a b c d,P a b c d/\Q a b c d/\R a b c d:=⟨a,b,c,d,h1,h2,h3⟩
def QE{A B D E:Sort _}{P Q R S:A->B->D->E->Prop}(a:A)(b:B)(c:D)(d:E)(h1:P a b c d)(h2:Q a b c d)(h3:R a b c d)(h4:S a b c d):∃a b c d,P a b c d/\Q a b c d/\R a b c d/\S a b c d:=⟨a,b,c,d,h1,h2,h3,h4⟩
def tA{A B D E:Sort _}{P Q R S T:A->B->D->E->Prop}(a:A)(b:B)(c:D)(d:E)(h1:P a b c d)(h2:Q a b c d)(h3:R a b c d)(h4:S a b c d)(h5:T a b c d):∃a b c d,P a b c d/\Q a b c d/\R a b c d/\S a b c d/\T a b c d:=⟨a,b,c,d,h1,h2,h3,h4,h5⟩
def QD{A B D E:Sort _}{P Q R S T U:A->B->D->E->Prop}(a:A)(b:B)(c:D)(d:E)(h1:P a b c d)(h2:Q a b c d)(h3:R a b c d)(h4:S a b c d)(h5:T a b c d)(h6:U a b c d):∃a b c d,P a b c d/\Q a b c d/\R a b c d/\S a b c d/\T a b c d/\U a b c d:=⟨a,b,c,d,h1,h2,h3,h4,h5,h6⟩
def HP{A B D E:Sort _}{P Q R S T U V:A->B->D->E->Prop}(a:A)(b:B)(c:D)(d:E)(h1:P a b c d)(h2:Q a b c d)(h3:R a b c d)(h4:S a b c d)(h5:T a b c d)(h6:U a b c d)(h7:V a b c d):∃a b c d,P a b c d/\Q a b c d/\R a b c d/\S a b c d/\T a b c d/\U a b c d/\V a b c d:=⟨a,b,c,d,h1,h2,h3,h4,h5,h6,h7⟩
def Oe{A B D E F:Sort _}{P Q:A->B->D->E->F->Prop}(a:A)(b:B)(c:D)(d:E)(e:F)(h1:P a b c d e)(h2:Q a b c d e):∃a b c d e,P a b c d e/\Q a b c d e:=⟨a,b,c,d,e,h1,h2⟩
def yf{A B D E F:Sort _}{P Q R:A->B->D->E->F->Prop}(a:A)(b:B)(c:D)(d:E)(e:F)(h1:P a b c d e)(h2:Q a b c d e)(h3:R a b c d e):∃a b c d e,P a b c d e/\Q a b c d e/\R a b c d e:=⟨a,b,c,d,e,h1,h2,h3⟩
def EW{A B D E F:Sort _}{P Q R S T:A->B->D->E->F->Prop}(a:A)(b:B)(c:D)(d:E)(e:F)(h1:P a b c d e)(h2:Q a b c d e)(h3:R a b c d e)(h4:S a b c d e)(h5:T a b c d e):∃a b c d e,P a b c d e/\Q a b c d e/\R a b c d e/\S a b c d e/\T a b c d e:=⟨a,b,c,d,e,h1,h2,h3,h4,h5⟩
def EV{A B D E F:Sort _}{P Q R S T U V:A->B->D->E->F->Prop}(a:A)(b:B)(c:D)(d:E)(e:F)(h1:P a b c d e)(h2:Q a b c d e)(h3:R a b c d e)(h4:S a b c d e)(h5:T a b c d e)(h6:U a b c d e)(h7:V a b c d e):∃a b c d e,P a b c d e/\Q a b c d e/\R a b c d e/\S a b c d e/\T a b c d e/\U a b c d e/\V a b c d e:=⟨a,b,c,d,e,h1,h2,h3,h4,h5,h6,h7⟩
def LA{A B D E F G:Sort _}{P Q R S T U:A->B->D->E->F->G->Prop}(a:A)(b:B)(c:D)(d:E)(e:F)(f:G)(h1:P a b c d e f)(h2:Q a b c d e f)(h3:R a b c d e f)(h4:S a b c d e f)(h5:T a b c d e f)(h6:U a b c d e f):∃a b c d e f,P a b c d e f/\Q a b c d e f/\R a b c d e f/\S a b c d e f/\T a b c d e f/\U a b c d e f:=⟨a,b,c,d,e,f,h1,h2,h3,h4,h5,h6⟩
def Ab{A B D E F G:Sort _}{P Q R S T U V:A->B->D->E->F->G->Prop}(a:A)(b:B)(c:D)(d:E)(e:F)(f:G)(h1:P a b c d e f)(h2:Q a b c d e f)(h3:R a b c d e f)(h4:S a b c d e f)(h5:T a b c d e f)(h6:U a b c d e f)(h7:V a b c d e f):∃a b c d e f,P a b c d e f/\Q a b c d e f/\R a b c d e f/\S a b c d e f/\T a b c d e f/\U a b c d e f/\V a b c d e f:=⟨a,b,c,d,e,f,h1,h2,h3,h4,h5,h6,h7⟩
def ye{A B D E F G I:Sort _}{P Q R S T U:A->B->D->E->F->G->I->Prop}(a:A)(b:B)(c:D)(d:E)(e:F)(f:G)(g:I)(h1:P a b c d e f g)(h2:Q a b c d e f g)(h3:R a b c d e f g)(h4:S a b c d e f g)(h5:T a b c d e f g)(h6:U a b c d e f g):∃a b c d e f g,P a b c d e f g/\Q a b c d e f g/\R a b c d e f g/\S a b c d e f g/\T a b c d e f g/\U a b c d e f g:=⟨a,b,c,d,e,f,g,h1,h2,h3,h4,h5,h6⟩
def Od{A B D E F G I:Sort _}{P Q R S T U V:A->B->D->E->F->G->I->Prop}(a:A)(b:B)(c:D)(d:E)(e:F)(f:G)(g:I)(h1:P a b c d e f g)(h2:Q a b c d e f g)(h3:R a b c d e f g)(h4:S a b c d e f g)(h5:T a b c d e f g)(h6:U a b c d e f g)(h7:V a b c d e f g):∃a b c d e f g,P a b c d e f g/\Q a b c d e f g/\R a b c d e f g/\S a b c d e f g/\T a b c d e f g/\U a b c d e f g/\V a b c d e f g:=⟨a,b,c,d,e,f,g,h1,h2,h3,h4,h5,h6,h7⟩
def QC{A B D E F G I J:Sort _}{P Q R S T:A->B->D->E->F->G->I->J->Prop}(a:A)(b:B)(c:D)(d:E)(e:F)(f:G)(g:I)(i:J)(h1:P a b c d e f g i)(h2:Q a b c d e f g i)(h3:R a b c d e f g i)(h4:S a b c d e f g i)(h5:T a b c d e f g i):∃a b c d e f g i,P a b c d e f g i/\Q a b c d e f g i/\R a b c d e f g i/\S a b c d e f g i/\T a b c d e f g i:=⟨a,b,c,d,e,f,g,i,h1,h2,h3,h4,h5⟩
def Oc{A B D E F G I J:Sort _}{P Q R S T U V:A->B->D->E->F->G->I->J->Prop}(a:A)(b:B)(c:D)(d:E)(e:F)(f:G)(g:I)(i:J)(h1:P a b c d e f g i)(h2:Q a b c d e f g i)(h3:R a b c d e f g i)(h4:S a b c d e f g i)(h5:T a b c d e f g i)(h6:U a b c d e f g i)(h7:V a b c d e f g i):∃a b c d e f g i,P a b c d e f g i/\Q a b c d e f g i/\R a b c d e f g i/\S a b c d e f g i/\T a b c d e f g i/\U a b c d e f g i/\V a b c d e f g i:=⟨a,b,c,d,e,f,g,i,h1,h2,h3,h4,h5,h6,h7⟩
def v8{A B D E F G I J K:Sort _}{P Q R S T U V:A->B->D->E->F->G->I->J->K->Prop}(a:A)(b:B)(c:D)(d:E)(e:F)(f:G)(g:I)(i:J)(j:K)(h1:P a b c d e f g i j)(h2:Q a b c d e f g i j)(h3:R a b c d e f g i j)(h4:S a b c d e f g i j)(h5:T a b c d e f g i j)(h6:U a b c d e f g i j)(h7:V a b c d e f g i j):∃a b c d e f g i j,P a b c d e f g i j/\Q a b c d e f g i j/\R a b c d e f g i j/\S a b c d e f g i j/\T a b c d e f g i j/\U a b c d e f g i j/\V a b c d e f g i j:=⟨a,b,c,d,e,f,g,i,j,h1,h2,h3,h4,h5,h6,h7⟩
def Nf{P Q:Prop}{C:Prop}(h:P/\Q)(k:P->Q->C):C:=M7 h k
def kE{P Q R:Prop}{C:Prop}(h:P/\Q/\R)(k:P->Q->R->C):C:=M6 h k
def vp{P Q R S:Prop}{C:Prop}(h:P/\Q/\R/\S)(k:P->Q->R->S->C):C:=Py h k
def P8{P Q R S T:Prop}{C:Prop}(h:P/\Q/\R/\S/\T)(k:P->Q->R->S->T->C):C:=M5 h k
def Nd{P Q R S T U V W:Prop}{C:Prop}(h:P/\Q/\R/\S/\T/\U/\V/\W)(k:P->Q->R->S->T->U->V->W->C):C:=Uw h k
def J9{A:Sort _}{P:A->Prop}{C:Prop}(h:∃a,P a)(k:∀a,P a->C):C:=OW h k
def aL{A:Sort _}{P Q:A->Prop}{C:Prop}(h:∃a,P a/\Q a)(k:∀a,P a->Q a->C):C:=OW h λa p=>M7 p (k a)
def dq{A:Sort _}{P Q R:A->Prop}{C:Prop}(h:∃a,P a/\Q a/\R a)(k:∀a,P a->Q a->R a->C):C:=OW h λa p=>M6 p (k a)
def B3{A:Sort _}{P Q R S:A->Prop}{C:Prop}(h:∃a,P a/\Q a/\R a/\S a)(k:∀a,P a->Q a->R a->S a->C):C:=OW h λa p=>Py p (k a)
def Go{A:Sort _}{P Q R S T:A->Prop}{C:Prop}(h:∃a,P a/\Q a/\R a/\S a/\T a)(k:∀a,P a->Q a->R a->S a->T a->C):C:=OW h λa p=>M5 p (k a)
def y4{A B:Sort _}{P:A->B->Prop}{C:Prop}(h:∃a b,P a b)(k:∀a b,P a b->C):C:=M3 h k
def gy{A B:Sort _}{P Q:A->B->Prop}{C:Prop}(h:∃a b,P a b/\Q a b)(k:∀a b,P a b->Q a b->C):C:=M3 h λa b p=>M7 p (k a b)
def dX{A B:Sort _}{P Q R:A->B->Prop}{C:Prop}(h:∃a b,P a b/\Q a b/\R a b)(k:∀a b,P a b->Q a b->R a b->C):C:=M3 h λa b p=>M6 p (k a b)
def fy{A B:Sort _}{P Q R S:A->B->Prop}{C:Prop}(h:∃a b,P a b/\Q a b/\R a b/\S a b)(k:∀a b,P a b->Q a b->R a b->S a b->C):C:=M3 h λa b p=>Py p (k a b)
def ua{A B:Sort _}{P Q R S T:A->B->Prop}{C:Prop}(h:∃a b,P a b/\Q a b/\R a b/\S a b/\T a b)(k:∀a b,P a b->Q a b->R a b->S a b->T a b->C):C:=M3 h λa b p=>M5 p (k a b)
def Gn{A B:Sort _}{P Q R S T U:A->B->Prop}{C:Prop}(h:∃a b,P a b/\Q a b/\R a b/\S a b/\T a b/\U a b)(k:∀a b,P a b->Q a b->R a b->S a b->T a b->U a b->C):C:=M3 h λa b p=>Px p (k a b)
def t9{A B D:Sort _}{P:A->B->D->Prop}{C:Prop}(h:∃a b c,P a b c)(k:∀a b c,P a b c->C):C:=M0 h k
def vo{A B D:Sort _}{P Q:A->B->D->Prop}{C:Prop}(h:∃a b c,P a b c/\Q a b c)(k:∀a b c,P a b c->Q a b c->C):C:=M0 h λa b c p=>M7 p (k a b c)
def B2{A B D:Sort _}{P Q R:A->B->D->Prop}{C:Prop}(h:∃a b c,P a b c/\Q a b c/\R a b c)(k:∀a b c,P a b c->Q a b c->R a b c->C):C:=M0 h λa b c p=>M6 p (k a b c)
def gS{A B D:Sort _}{P Q R S:A->B->D->Prop}{C:Prop}(h:∃a b c,P a b c/\Q a b c/\R a b c/\S a b c)(k:∀a b c,P a b c->Q a b c->R a b c->S a b c->C):C:=M0 h λa b c p=>Py p (k a b c)
def jT{A B D:Sort _}{P Q R S T:A->B->D->Prop}{C:Prop}(h:∃a b c,P a b c/\Q a b c/\R a b c/\S a b c/\T a b c)(k:∀a b c,P a b c->Q a b c->R a b c->S a b c->T a b c->C):C:=M0 h λa b c p=>M5 p (k a b c)
def Gm{A B D:Sort _}{P Q R S T U:A->B->D->Prop}{C:Prop}(h:∃a b c,P a b c/\Q a b c/\R a b c/\S a b c/\T a b c/\U a b c)(k:∀a b c,P a b c->Q a b c->R a b c->S a b c->T a b c->U a b c->C):C:=M0 h λa b c p=>Px p (k a b c)
def Nc{A B D E:Sort _}{P Q:A->B->D->E->Prop}{C:Prop}(h:∃a b c d,P a b c d/\Q a b c d)(k:∀a b c d,P a b c d->Q a b c d->C):C:=MZ h λa b c d p=>M7 p (k a b c d)
def w3{A B D E:Sort _}{P Q R:A->B->D->E->Prop}{C:Prop}(h:∃a b c d,P a b c d/\Q a b c d/\R a b c d)(k:∀a b c d,P a b c d->Q a b c d->R a b c d->C):C:=MZ h λa b c d p=>M6 p (k a b c d)
def w2{A B D E:Sort _}{P Q R S:A->B->D->E->Prop}{C:Prop}(h:∃a b c d,P a b c d/\Q a b c d/\R a b c d/\S a b c d)(k:∀a b c d,P a b c d->Q a b c d->R a b c d->S a b c d->C):C:=MZ h λa b c d p=>Py p (k a b c d)
def w1{A B D E:Sort _}{P Q R S T:A->B->D->E->Prop}{C:Prop}(h:∃a b c d,P a b c d/\Q a b c d/\R a b c d/\S a b c d/\T a b c d)(k:∀a b c d,P a b c d->Q a b c d->R a b c d->S a b c d->T a b c d->C):C:=MZ h λa b c d p=>M5 p (k a b c d)
def J8{A B D E:Sort _}{P Q R S T U:A->B->D->E->Prop}{C:Prop}(h:∃a b c d,P a b c d/\Q a b c d/\R a b c d/\S a b c d/\T a b c d/\U a b c d)(k:∀a b c d,P a b c d->Q a b c d->R a b c d->S a b c d->T a b c d->U a b c d->C):C:=MZ h λa b c d p=>Px p (k a b c d)
def Gk{A B D E:Sort _}{P Q R S T U V:A->B->D->E->Prop}{C:Prop}(h:∃a b c d,P a b c d/\Q a b c d/\R a b c d/\S a b c d/\T a b c d/\U a b c d/\V a b c d)(k:∀a b c d,P a b c d->Q a b c d->R a b c d->S a b c d->T a b c d->U a b c d->V a b c d->C):C:=MZ h λa b c d p=>M4 p (k a b c d)
def P7{A B D E F:Sort _}{P Q:A->B->D->E->F->Prop}{C:Prop}(h:∃a b c d e,P a b c d e/\Q a b c d e)(k:∀a b c d e,P a b c d e->Q a b c d e->C):C:=PO h λa b c d e p=>M7 p (k a b c d e)
def P6{A B D E F:Sort _}{P Q R:A->B->D->E->F->Prop}{C:Prop}(h:∃a b c d e,P a b c d e/\Q a b c d e/\R a b c d e)(k:∀a b c d e,P a b c d e->Q a b c d e->R a b c d e->C):C:=PO h λa b c d e p=>M6 p (k a b c d e)
def Do{A B D E F:Sort _}{P Q R S T:A->B->D->E->F->Prop}{C:Prop}(h:∃a b c d e,P a b c d e/\Q a b c d e/\R a b c d e/\S a b c d e/\T a b c d e)(k:∀a b c d e,P a b c d e->Q a b c d e->R a b c d e->S a b c d e->T a b c d e->C):C:=PO h λa b c d e p=>M5 p (k a b c d e)
def wZ{A B D E F:Sort _}{P Q R S T U V:A->B->D->E->F->Prop}{C:Prop}(h:∃a b c d e,P a b c d e/\Q a b c d e/\R a b c d e/\S a b c d e/\T a b c d e/\U a b c d e/\V a b c d e)(k:∀a b c d e,P a b c d e->Q a b c d e->R a b c d e->S a b c d e->T a b c d e->U a b c d e->V a b c d e->C):C:=PO h λa b c d e p=>M4 p (k a b c d e)
def P0{A B D E F G:Sort _}{P Q R S T U:A->B->D->E->F->G->Prop}{C:Prop}(h:∃a b c d e f,P a b c d e f/\Q a b c d e f/\R a b c d e f/\S a b c d e f/\T a b c d e f/\U a b c d e f)(k:∀a b c d e f,P a b c d e f->Q a b c d e f->R a b c d e f->S a b c d e f->T a b c d e f->U a b c d e f->C):C:=SZ h λa b c d e f p=>Px p (k a b c d e f)
def Dn{A B D E F G:Sort _}{P Q R S T U V:A->B->D->E->F->G->Prop}{C:Prop}(h:∃a b c d e f,P a b c d e f/\Q a b c d e f/\R a b c d e f/\S a b c d e f/\T a b c d e f/\U a b c d e f/\V a b c d e f)(k:∀a b c d e f,P a b c d e f->Q a b c d e f->R a b c d e f->S a b c d e f->T a b c d e f->U a b c d e f->V a b c d e f->C):C:=SZ h λa b c d e f p=>M4 p (k a b c d e f)
def Nb{A B D E F G I:Sort _}{P Q R S T U:A->B->D->E->F->G->I->Prop}{C:Prop}(h:∃a b c d e f g,P a b c d e f g/\Q a b c d e f g/\R a b c d e f g/\S a b c d e f g/\T a b c d e f g/\U a b c d e f g)(k:∀a b c d e f g,P a b c d e f g->Q a b c d e f g->R a b c d e f g->S a b c d e f g->T a b c d e f g->U a b c d e f g->C):C:=SY h λa b c d e f g p=>Px p (k a b c d e f g)
def wY{A B D E F G I:Sort _}{P Q R S T U V:A->B->D->E->F->G->I->Prop}{C:Prop}(h:∃a b c d e f g,P a b c d e f g/\Q a b c d e f g/\R a b c d e f g/\S a b c d e f g/\T a b c d e f g/\U a b c d e f g/\V a b c d e f g)(k:∀a b c d e f g,P a b c d e f g->Q a b c d e f g->R a b c d e f g->S a b c d e f g->T a b c d e f g->U a b c d e f g->V a b c d e f g->C):C:=SY h λa b c d e f g p=>M4 p (k a b c d e f g)
def Na{A B D E F G I J:Sort _}{P Q R S T U V:A->B->D->E->F->G->I->J->Prop}{C:Prop}(h:∃a b c d e f g i,P a b c d e f g i/\Q a b c d e f g i/\R a b c d e f g i/\S a b c d e f g i/\T a b c d e f g i/\U a b c d e f g i/\V a b c d e f g i)(k:∀a b c d e f g i,P a b c d e f g i->Q a b c d e f g i->R a b c d e f g i->S a b c d e f g i->T a b c d e f g i->U a b c d e f g i->V a b c d e f g i->C):C:=TM h λa b c d e f g i p=>M4 p (k a b c d e f g i)
def wX{A B D E F G I J K:Sort _}{P Q R S T U V:A->B->D->E->F->G->I->J->K->Prop}{C:Prop}(h:∃a b c d e f g i j,P a b c d e f g i j/\Q a b c d e f g i j/\R a b c d e f g i j/\S a b c d e f g i j/\T a b c d e f g i j/\U a b c d e f g i j/\V a b c d e f g i j)(k:∀a b c d e f g i j,P a b c d e f g i j->Q a b c d e f g i j->R a b c d e f g i j->S a b c d e f g i j->T a b c d e f g i j->U a b c d e f g i j->V a b c d e f g i j->C):C:=TK h λa b c d e f g i j p=>M4 p (k a b c d e f g i j)
end
end Mine.Internal
section
namespace Mine.Internal
mutual
variable{x0 x1 x2 x3 x4:Nat}{c:List Nat}
inductive Li where
 | lv (i:Nat)
 | ln (k:Nat)
 | lp (a b:Li)
 | lm (k:Nat) (a:Li)
 | lr (a:Li) (k:Nat)
abbrev fG(x l:List Nat):Nat:=nC (λzz=>0) (λa zz r x=>a*x.headD 0+r x.tail) l x
abbrev xU(l r:List Nat):List Nat:=nC (λr=>r) (λa l f r=>Nat.add a (r.headD 0)::f r.tail) l r
abbrev m7(i:Nat):List Nat:=Nat.rec [1] (λzz r=>0::r) i
abbrev HC(l r:List Nat):Bool:=nC (λzz=>true) (λa l f r=>dm a (r.headD 0) && f r.tail) l r
abbrev JD(c:List Nat)(i:Nat):Nat:=Nat.rec (λc=>c.headD 0) (λzz r c=>r c.tail) i c
abbrev gw(c:List Nat)(e:Li):Nat:=Li.rec (λi=>JD c i) (λk=>k) (λzz zy x y=>x+y) (λk zz x=>k*x) (λzz k x=>x*k) e
abbrev lS(e:Li):List Nat:=Li.rec (λi=>0::m7 i) (λk=> [k]) (λzz zy x y=>xU x y) (λk zz x=>x.map (Nat.mul k)) (λzz k x=>x.map (Nat.mul k)) e
abbrev m8(c:List Nat)(h:List (Li×Li))(P:Prop):Prop:=nC P (λq zz r=>gw c q.1<=gw c q.2->r) h
abbrev nh(h:List (Li×Li))(g g':List Nat):Bool:=nC HC (λq zz r g g'=>r (xU g (lS q.2)) (xU g' (lS q.1))) h g g'
def qI(l:List Nat):∀r x,fG x (xU l r)=fG x l+fG x r:=by
 induction l with
 | nil=>exact λr x=>(jh _).symm
 | cons a l ih=>
  intro r x;have e:fG x r=r.headD 0*x.headD 0+fG x.tail r.tail:=by
   cases r with
   | nil=>exact((congrArg (· +0) (yT _))).symm
   | cons=>rfl
  show(a+r.headD 0)*x.headD 0+fG x.tail (xU l r.tail)=a*x.headD 0+fG x.tail l+fG x r
  erw [ih,e,Nat.add_mul,Nat.add_add_add_comm];rfl
def xT(l:List Nat):∀r x,HC l r=true->fG x l<=fG x r:=by
 induction l with
 | nil=>exact λr x zz=>aX _
 | cons a l ih=>
  intro r x h;have e:fG x r=r.headD 0*x.headD 0+fG x.tail r.tail:=by
   cases r with
   | nil=>exact((congrArg (· +0) (yT _))).symm
   | cons=>rfl
  have h:(dm a (r.headD 0) && HC l r.tail)=true:=h
  erw [e]
  exact Nat.add_le_add (Nat.mul_le_mul_right _ (ab (ag.mp h).1)) (ih _ _ (ag.mp h).2)
def z0(i:Nat):∀x,fG x (m7 i)=JD x i:=by
 induction i with
 | zero=>exact λx=>Nat.one_mul _
 | succ i ih=>exact λx=>(congrArg (· +fG x.tail (m7 i)) (yT _)).trans ((jh _).trans (ih _))
def uO(k:Nat)(l:List Nat):∀x,fG x (l.map (Nat.mul k))=k*fG x l:=by
 induction l with
 | nil=>exact λzz=>rfl
 | cons a l ih=>exact λx=>(congrArg (Nat.mul k a*x.headD 0+ ·) (ih _)).trans ((congrArg (· +k*fG x.tail l) (Nat.mul_assoc ..)).trans (Nat.mul_add ..).symm)
def m9(c:List Nat)(e:Li):gw c e=fG (1::c) (lS e):=by
 induction e with
 | lv i=>exact(z0 i c).symm.trans ((jh _).symm.trans (congrArg (· +fG c (m7 i)) (yT 1).symm))
 | ln k=>exact(Nat.mul_one k).symm
 | lp a b x y=>exact(congr (congrArg HAdd.hAdd x) y).trans (qI ..).symm
 | lm k a x=>exact(congrArg (k* ·) x).trans (uO ..).symm
 | lr a k x=>exact(congrArg (· *k) x).trans ((Nat.mul_comm ..).trans (uO ..).symm)
def Sa(c:List Nat)(P:Prop)(h:List (Li×Li)):∀g g',nh h g g'=true->(∀a b,HC a b=true->fG (1::c) g+fG (1::c) b<=fG (1::c) g'+fG (1::c) a->P)->m8 c h P:=by
 induction h with
 | nil=>exact λg g' e k=>k g g' e (iB (dn ..))
 | cons q h ih=>
  exact λg g' e k z=>ih _ _ e λa b l u=>k a b l (by
   have z:gw c q.1<=gw c q.2:=z
   have z:fG (1::c) (lS q.1)<=fG (1::c) (lS q.2):=m9 c q.1 ▸m9 c q.2 ▸z
   exact Nat.le_of_add_le_add_right (aj (iB ((gq ..).trans (congrArg (· +fG (1::c) b) (qI g (lS q.2) (1::c)).symm))) (aj u (aj (iB (congrArg (· +fG (1::c) a) (qI ..))) (aj (t6 (mN z _) _) (iB (gq ..)))))))
def MW(g g':Li)(h:List (Li×Li))(ok:nh h (lS g) (lS g')=true):m8 c h (gw c g<=gw c g'):=Sa c _ h _ _ ok λa b l u=>by
 erw [m9,m9]
 exact Nat.le_of_add_le_add_right (aj u (mN (xT a b (1::c) l) _))
def aR:true=true:=rfl
def pJ{a b:Nat}(h:a=b):a<=b:=iB h
def lq{a b:Nat}(h:a=b):b<=a:=iB h.symm
def tg(a b:Nat):a<=a-b+b:=Nat.le_add_of_sub_le (aw _)
inductive Ii where
 | iv (i:Nat)
 | ic (e:Li)
 | ik (z:Int)
 | ip (a b:Ii)
 | is (a b:Ii)
 | ig (a:Ii)
 | im (z:Int) (a:Ii)
 | ir (a:Ii) (z:Int)
inductive Hs where
 | ho
 | hz (a b:Ii) (r:Hs)
 | hn (a b:Li) (r:Hs)
abbrev cZ(x l:List Int):Int:=nC (λzz=>0) (λa zz r x=>a*x.headD 0+r x.tail) l x
abbrev j1(l r:List Int):List Int:=nC (λr=>r) (λa l f r=>Int.add a (r.headD 0)::f r.tail) l r
abbrev ma(z:Int)(l:List Int):List Int:=l.map (Int.mul z)
abbrev JB(c:List Int)(i:Nat):Int:=Nat.rec (λc=>c.headD 0) (λzz r c=>r c.tail) i c
abbrev d4(l:List Nat):List Int:=l.map Int.ofNat
abbrev ij(ci:List Int)(cn:List Nat)(e:Ii):Int:=Ii.rec (λi=>JB ci i) (λe=>((gw cn e:Nat):Int)) (λz=>z) (λzz zy x y=>x+y) (λzz zy x y=>x-y) (λzz x=> -x) (λz zz x=>z*x) (λzz z x=>x*z) e
abbrev lA(e:Ii):List Int×List Int:=Ii.rec (λi=>(0::d4 (m7 i),[])) (λe=>([],d4 (lS e))) (λz=>([z],[])) (λzz zy x y=>(j1 x.1 y.1,j1 x.2 y.2)) (λzz zy x y=>(j1 x.1 (ma (-1) y.1),j1 x.2 (ma (-1) y.2))) (λzz x=>(ma (-1) x.1,ma (-1) x.2)) (λz zz x=>(ma z x.1,ma z x.2)) (λzz z x=>(ma z x.1,ma z x.2)) e
abbrev ED(ci:List Int)(cn:List Nat)(h:Hs)(P:Prop):Prop:=Hs.rec P (λa b zz r=>ij ci cn a<=ij ci cn b->r) (λa b zz r=>gw cn a<=gw cn b->r) h
abbrev EB(l:List Int):Bool:=nC true (λa zz r=>decide (a=0) && r) l
abbrev JA(l:List Int):Bool:=nC true (λa zz r=>decide (0<=a) && r) l
abbrev JC(A B:List Int):Bool:=decide (0<=A.headD 0+B.headD 0) && (EB A.tail && JA B.tail)
abbrev EE(h:Hs)(A B:List Int):Bool:=Hs.rec JC (λa b zz r A B=>r (j1 A (lA (.is a b)).1) (j1 B (lA (.is a b)).2)) (λa b zz r A B=>r A (j1 B (lA (.is (.ic a) (.ic b))).2)) h A B
def N2(a b c d:Int):a+b+(c+d)=a+c+(b+d):=by lia
def Qw(a b c d:Int):a+b-(c+d)=a+ -1*c+(b+ -1*d):=by lia
def Qu(a b:Int):-(a+b)= -1*a+ -1*b:=by lia
def oP(x l:List Int):cZ x l=l.headD 0*x.headD 0+cZ x.tail l.tail:=by
 cases l with
 | nil=>exact((congrArg (· +0) (yX _))).symm
 | cons=>rfl
def ju(l:List Int):∀r x,cZ x (j1 l r)=cZ x l+cZ x r:=by
 induction l with
 | nil=>exact λr x=>(yY _).symm
 | cons a l ih=>
  intro r x
  erw [oP x r]
  show(a+r.headD 0)*x.headD 0+cZ x.tail (j1 l r.tail)=a*x.headD 0+cZ x.tail l+_
  erw [ih,Int.add_mul]
  exact N2 ..
def iW(z:Int)(l:List Int):∀x,cZ x (ma z l)=z*cZ x l:=by
 induction l with
 | nil=>exact λzz=>(Int.mul_zero z).symm
 | cons a l ih=>exact λx=>(congrArg (z*a*x.headD 0+ ·) (ih _)).trans ((congrArg (· +z*cZ x.tail l) (Int.mul_assoc ..)).trans (Int.mul_add ..).symm)
def zZ(l:List Nat):∀x,cZ (d4 x) (d4 l)=((fG x l:Nat):Int):=by
 induction l with
 | nil=>exact λzz=>rfl
 | cons a l ih=>
  intro x;have e:cZ (d4 x).tail (d4 l)=((fG x.tail l:Nat):Int):=by cases x with | nil=>exact ih [] | cons y r=>exact ih r
  have f:(d4 x).headD 0=((x.headD 0:Nat):Int):=by cases x <;> rfl
  show(a:Int)*(d4 x).headD 0+cZ (d4 x).tail (d4 l)=((a*x.headD 0+fG x.tail l:Nat):Int)
  erw [e,f,Int.natCast_add,Int.natCast_mul];rfl
def zY(i:Nat):∀x,cZ x (d4 (m7 i))=JB x i:=by
 induction i with
 | zero=>exact λx=>(yZ _).trans (Int.one_mul _)
 | succ i ih=>exact λx=>(congrArg (· +cZ x.tail (d4 (m7 i))) (yX _)).trans ((yY _).trans (ih _))
abbrev EC(ci:List Int)(cn:List Nat)(q:List Int×List Int):Int:=cZ (1::ci) q.1+cZ (d4 (1::cn)) q.2
def tf(ci:List Int)(cn:List Nat)(e:Ii):ij ci cn e=EC ci cn (lA e):=by
 induction e with
 | iv i=>exact(zY i ci).symm.trans ((yY _).symm.trans ((congrArg (· +cZ ci (d4 (m7 i))) (yX 1).symm).trans (yZ _).symm))
 | ic e=>exact(congrArg Int.ofNat (m9 cn e)).trans ((zZ ..).symm.trans (yY _).symm)
 | ik z=>exact(Int.mul_one z).symm.trans ((yZ _).symm.trans (yZ _).symm)
 | ip a b x y=>
  show ij ci cn a+ij ci cn b=_
  erw [x,y];show _=cZ (1::ci) (j1 (lA a).1 (lA b).1)+cZ (d4 (1::cn)) (j1 (lA a).2 (lA b).2);erw [ju,ju];exact N2 ..
 | is a b x y=>
  show ij ci cn a-ij ci cn b=_
  erw [x,y];show _=cZ (1::ci) (j1 (lA a).1 (ma (-1) (lA b).1))+cZ (d4 (1::cn)) (j1 (lA a).2 (ma (-1) (lA b).2));erw [ju,ju,iW,iW];exact Qw ..
 | ig a x=>
  show -ij ci cn a=_
  erw [x];show _=cZ (1::ci) (ma (-1) (lA a).1)+cZ (d4 (1::cn)) (ma (-1) (lA a).2);erw [iW,iW];exact Qu ..
 | im z a x=>exact(congrArg (z* ·) x).trans ((Int.mul_add ..).trans (congr (congrArg HAdd.hAdd (iW ..).symm) (iW ..).symm))
 | ir a z x=>exact(congrArg (· *z) x).trans ((Int.mul_comm ..).trans ((Int.mul_add ..).trans (congr (congrArg HAdd.hAdd (iW ..).symm) (iW ..).symm)))
def xS(l:List Int):∀x,EB l=true->cZ x l=0:=by
 induction l with
 | nil=>exact λzz zy=>rfl
 | cons a l ih=>
  intro x h;have h:=ag.mp h;show a*_+cZ x.tail l=0
  erw [of_decide_eq_true h.1,ih _ h.2,yX];rfl
def zW(l:List Int):∀x:List Nat,JA l=true->0<=cZ (d4 x) l:=by
 induction l with
 | nil=>exact λzz zy=>Int.le_refl 0
 | cons a l ih=>
  intro x h;have h:=ag.mp h;have e:0<=cZ (d4 x).tail l:=by cases x with | nil=>exact ih [] h.2 | cons y r=>exact ih r h.2
  have f:0<=(d4 x).headD 0:=by cases x with | nil=>exact Int.le_refl 0 | cons y r=>exact fE y
  exact Int.add_nonneg (Int.mul_nonneg (of_decide_eq_true h.1) f) e
def zX{A B:List Int}(ci:List Int)(cn:List Nat)(h:JC A B=true):0<=EC ci cn (A,B):=by
 have h:=ag.mp h;have h2:=ag.mp h.2;have a:=xS A.tail ci h2.1;have b:=zW B.tail cn h2.2;have c:=of_decide_eq_true h.1;have d:cZ (d4 (1::cn)) B=B.headD 0*1+cZ (d4 cn) B.tail:=oP _ B;have e:cZ (1::ci) A=A.headD 0*1+cZ ci A.tail:=oP _ A;show 0<=cZ (1::ci) A+cZ (d4 (1::cn)) B
 erw [d,e]
 lia
def R8(ci:List Int)(cn:List Nat)(P:Prop)(h:Hs):∀A B,EE h A B=true->(0<=EC ci cn (A,B)->P)->ED ci cn h P:=by
 induction h with
 | ho=>exact λA B e k=>k (zX ci cn e)
 | hz a b h ih=>
  exact λA B e k (z:ij ci cn a<=ij ci cn b)=>ih _ _ e λu=>k (by
   have w:=tf ci cn (.is a b)
   have w:ij ci cn a-ij ci cn b=cZ (1::ci) (lA (.is a b)).1+cZ (d4 (1::cn)) (lA (.is a b)).2:=w
   have u:0<=cZ (1::ci) (j1 A (lA (.is a b)).1)+cZ (d4 (1::cn)) (j1 B (lA (.is a b)).2):=u
   show 0<=cZ (1::ci) A+cZ (d4 (1::cn)) B
   rw[ju,ju]at u
   lia)
 | hn a b h ih=>
  exact λA B e k (z:gw cn a<=gw cn b)=>ih _ _ e λu=>k (by
   have w:=tf ci cn (.is (.ic a) (.ic b))
   have w:(gw cn a:Int)-(gw cn b:Int)=cZ (1::ci) [] +cZ (d4 (1::cn)) (lA (.is (.ic a) (.ic b))).2:=w
   have w0:cZ (1::ci) []=0:=rfl
   have u:0<=cZ (1::ci) A+cZ (d4 (1::cn)) (j1 B (lA (.is (.ic a) (.ic b))).2):=u
   show 0<=cZ (1::ci) A+cZ (d4 (1::cn)) B
   rw[ju]at u
   lia)
def eB(ci:List Int)(cn:List Nat)(m:Nat)(g g':Ii)(h:Hs)(ok:EE h (lA (.ip (.im (m+1) (.is g' g)) (.ik m))).1 (lA (.ip (.im (m+1) (.is g' g)) (.ik m))).2=true):ED ci cn h (ij ci cn g<=ij ci cn g'):=R8 ci cn _ h _ _ ok λu=>by
 have w:=tf ci cn (.ip (.im (m+1) (.is g' g)) (.ik m));have w:((m:Int)+1)*(ij ci cn g'-ij ci cn g)+m=_:=w;have u:0<=((m:Int)+1)*(ij ci cn g'-ij ci cn g)+m:=w ▸u;by_cases c:ij ci cn g<=ij ci cn g'
 ·exact c
 ·have d:ij ci cn g'-ij ci cn g<=-1:=by lia
  have e:=Int.mul_le_mul_of_nonneg_left (c:=(m:Int)+1) d (by lia);lia
def Dj(ci:List Int)(cn:List Nat)(h:Hs)(ok:EE h [-1] []=true):ED ci cn h False:=R8 ci cn _ h _ _ ok λu=>by
 have u:0<=cZ (1::ci) [-1] +cZ (d4 (1::cn)) []:=u;have a:cZ (1::ci) [-1]= -1:=rfl;have b:cZ (d4 (1::cn)) []=0:=rfl;lia
def pK{x:Int}{k:Nat}(h:0<=x+k)(h':x<=k):x.natAbs<=k:=by lia
def wU{a b:Int}(h:a=b):a<=b:=Int.le_of_eq h
def wR{a b:Int}(h:a=b):b<=a:=Int.le_of_eq h.symm
def ue(a k:Nat):k*(a / k)<=a:=Nat.mul_div_le a k
abbrev aJ(a b:Li):Li:= .lp a b
abbrev eS(a:Li):Li:= .lp a (.ln 1)
abbrev fZ(k:Nat)(a:Li):Li:= .lm k a
abbrev aG(k:Nat):Li:= .ln k
abbrev ai:Li:= .lv 0
abbrev ay:Li:= .lv 1
abbrev bF:Li:= .lv 2
abbrev cP:Li:= .lv 3
abbrev nU:Li:= .lv 4
abbrev N0:Li:= .lv 5
def R9(h:List (Li×Li))(ok:nh h [1] []=true):m8 c h False:=Sa c _ h _ _ ok λa b l u=>by
 have:=xT a b (1::c) l;have z:fG (1::c) [1]=1:=rfl;have y:fG (1::c) []=0:=rfl;lia
def cz(g g':Li)(h:List (Li×Li))(ok:nh h (lS g) (lS g')=true):m8 [x0] h (gw [x0] g<=gw [x0] g'):=MW g g' h ok
def QX(h:List (Li×Li))(ok:nh h [1] []=true):m8 [x0] h False:=R9 h ok
def bE(g g':Li)(h:List (Li×Li))(ok:nh h (lS g) (lS g')=true):m8 [x0,x1] h (gw [x0,x1] g<=gw [x0,x1] g'):=MW g g' h ok
def CL(h:List (Li×Li))(ok:nh h [1] []=true):m8 [x0,x1] h False:=R9 h ok
def gj(g g':Li)(h:List (Li×Li))(ok:nh h (lS g) (lS g')=true):m8 [x0,x1,x2] h (gw [x0,x1,x2] g<=gw [x0,x1,x2] g'):=MW g g' h ok
def gU(g g':Li)(h:List (Li×Li))(ok:nh h (lS g) (lS g')=true):m8 [x0,x1,x2,x3] h (gw [x0,x1,x2,x3] g<=gw [x0,x1,x2,x3] g'):=MW g g' h ok
def Ai(g g':Li)(h:List (Li×Li))(ok:nh h (lS g) (lS g')=true):m8 [x0,x1,x2,x3,x4] h (gw [x0,x1,x2,x3,x4] g<=gw [x0,x1,x2,x3,x4] g'):=MW g g' h ok
def Ox{x5:Nat}(g g':Li)(h:List (Li×Li))(ok:nh h (lS g) (lS g')=true):m8 [x0,x1,x2,x3,x4,x5] h (gw [x0,x1,x2,x3,x4,x5] g<=gw [x0,x1,x2,x3,x4,x5] g'):=MW g g' h ok
abbrev bf:Li:=eS ai
abbrev cN:Li:=eS ay
abbrev l9:Li:=eS bF
abbrev Qt:Li:=eS cP
abbrev cX:Li:=aG 1000000
abbrev TH(a:Li)(k:Nat):Li:= .lr a k
end
end Mine.Internal
end
section
open PySem PySem.Calls PyProof.Rows PySem.W
namespace Mine.Internal
mutual
inductive AV where
 | none
 | bool (b:Bool)
 | int (i:Int)
 | str (s:List Nat)
 | U (vs:List AV)
 | a (vs:List AV)
 | obj (i:Nat)
 | rng (a b c:Int)
 | ref (k:Nat)
abbrev AV.ctorIdx(x:AV):Nat:=AV.casesOn x 0 (λzz=>1) (λzz=>2) (λzz=>3) (λzz=>4) (λzz=>5) (λzz=>6) (λzz zy zx=>7) (λzz=>8)
set_option genInjectivity true in
inductive Cell where
 | list (vs:List AV)
 | n (c:Nat) (fs:List (Nat×AV))
 | dict (es:List (List Nat×AV))
abbrev Cell.ctorIdx(x:Cell):Nat:=Cell.casesOn x (λzz=>0) (λzz zy=>1) (λzz=>2)
noncomputable abbrev Hp:=List Cell
noncomputable abbrev Ls:=List (Option AV)
set_option genCtorIdx true in
inductive O2 where
 | add | sub | mul | fdiv | mod | pow | shl | shr | band
set_option genCtorIdx true in
inductive CO where
 | eq | ne | lt | le | gt | ge | is | isnot | isin | notin
set_option genCtorIdx true in
inductive BI where
 | abs | chr | ord | len | divmod | int | list | max | min | str | tuple | all | range
inductive IK where
 | bool | int | cls (c:Nat)
inductive PT where
 | one (i:Nat)
 | many (is:List Nat)
inductive E where
 | fail
 | lit (v:AV)
 | v (i:Nat)
 | list (es:List E)
 | U (es:List E)
 | dict0
 | o (o:O2) (a b:E)
 | neg (a:E)
 | not (a:E)
 | j (o:CO) (a b:E)
 | chain (a:E) (o:CO) (b:E) (o':CO) (c:E)
 | and (a b:E)
 | or (a b:E)
 | ife (c a b:E)
 | aT (a:E) (f:Nat)
 | idx (a b:E)
 | slice (a:E) (lo hi:Option E)
 | call (f:Nat) (args:List E)
 | new (c:Nat) (args:List E)
 | bi (b:BI) (args:List E)
 | h (a:E) (k:IK)
 | meth (a:E) (m:Nat) (args:List E)
 | esc (p:List Nat) (x:E) (y1:Nat) (z1:List Nat) (y2:Nat) (z2:List Nat)
 | joinrev (a b:E)
 | dget (kvs:List (Int×List Nat)) (k d:E)
 | comp (elt:E) (t:PT) (src:E) (enum:Bool) (cond:Option E)
inductive T where
 | v (i:Nat)
 | aT (a:E) (f:Nat)
 | idx (a b:E)
 | U (ts:List T)
inductive S where
 | fail
 | expr (e:E)
 | ret (e:E)
 | retn
 | aS (t:T) (e:E)
 | ite (c:E) (a b:List S)
 | while (c:E) (b:List S)
 | for (t:PT) (src:E) (b:List S)
 | pass
 | cont
 | try_ (b:List S)
abbrev S.ctorIdx(x:S):Nat:=S.casesOn x 0 (λzz=>1) (λzz=>2) 3 (λzz zy=>4) (λzz zy zx=>5) (λzz zy=>6) (λzz zy zx=>7) 8 9 (λzz=>10)
structure Fn where
 np:Nat
 dfl:List AV
 nl:Nat
 body:List S
structure Cls where
 init:Nat
 meths:List (Nat×Nat)
 flds:List Nat
inductive Gv where
 | fn (i:Nat)
 | cls (i:Nat)
 | bi (b:BI)
 | rev
 | enum
 | isinst
 | ty (k:IK)
 | val (v:AV)
abbrev Gv.ctorIdx(x:Gv):Nat:=Gv.casesOn x (λzz=>0) (λzz=>1) (λzz=>2) 3 4 5 (λzz=>6) (λzz=>7)
structure CX where
 scope:Scope
 slots:List (Str×Nat)
 nxt:Nat
 glob:List (Str×Gv)
 nm:List Str
abbrev tw(x:Str):List Str->Option Nat
 | []=>none
 | y::r=>if x==y then some 0 else(tw x r).map (· +1)
abbrev Fk:Str:=⟨#[95,95,100,101,98,117,103,95,95]⟩
abbrev tN:Str:=⟨#[95,95,99,108,97,115,115,100,105,99,116,95,95]⟩
abbrev Jw:Str:=⟨#[95,95,110,97,109,101,95,95]⟩
abbrev Q9:Str:=⟨#[46,48]⟩
abbrev Ei(x:Str):Bool:=x==Fk || x==tN || x==Jw
abbrev CX.gv(cx:CX)(x:Str):Option Gv:=if cx.scope.names.lookup x==some .globalImplicit && !Ei x then cx.glob.lookup x else none
abbrev CX.slot(cx:CX)(x:Str):Option Nat:=if Ei x then none else match cx.scope.names.lookup x with
 | some .local | some .cell | some .free=>cx.slots.lookup x
 | _=>none
abbrev cu:Expr->Bool
 | .Starred .. =>false
 | _=>true
abbrev QA:Expr->Bool
 | .Name _ _=>true
 | _=>false
abbrev iU:Expr->Bool
 | .Call f a k _=> !(QA f && (a.isEmpty && k.isEmpty))
 | _=>true
abbrev kU(args:List Expr):Bool:=args.all cu && cf args.length 29
abbrev eZ(o:Expr)(apos pos:Pos)(args:List Expr):Bool:=iU o && (apos.endLine==pos.line) && kU args
abbrev pG{α:Type}(o:Option α)(k:α->E):E:=match o with
 | some a=>k a
 | none=> .fail
abbrev wV(b:Bool)(c:E):E:=match b with
 | true=>c
 | false=> .fail
abbrev Ax:Expr->Option (Expr×List Expr×Pos)
 | .Call g args [] p=>some (g,args,p)
 | _=>none
abbrev FO:Expr->Option (Expr×Str×Pos)
 | .Attribute a f p=>some (a,f,p)
 | _=>none
abbrev AY:Expr->Option (Str×Nat×Pos)
 | .Constant (.str s) k p=>some (s,k,p)
 | _=>none
abbrev isAdd:Operator->Bool
 | .Add=>true
 | _=>false
abbrev mA:Expr->Option (Option Expr×Option Expr×Option Expr×Pos)
 | .Slice a b c p=>some (a,b,c,p)
 | _=>none
abbrev BJ:Expr->Option (List (Option Expr)×List Expr×Pos)
 | .Dict ks vs p=>some (ks,vs,p)
 | _=>none
abbrev Bh{α:Type}:List α->Option (α×α)
 | [x,y]=>some (x,y)
 | _=>none
abbrev xC{α:Type}:List α->Option α
 | [x]=>some x
 | _=>none
abbrev G1{α:Type}(b:Bool)(x:Option α):Option α:=match b with
 | true=>x
 | false=>none
structure RepP where
 x:Expr
 r:Str
 p1:Pos
 y:Str
 ky:Nat
 qy:Pos
 z:Str
 kz:Nat
 qz:Pos
 p2:Pos
abbrev KL(e:Expr):Option RepP:=
 (Ax e).bind λc=>(FO c.1).bind λa=>(Bh c.2.1).bind λq=>(AY q.1).bind λy=>(AY q.2).bind λz=>
  some ⟨a.1,a.2.1,a.2.2,y.1,y.2.1,y.2.2,z.1,z.2.1,z.2.2,c.2.2⟩
structure EscP where
 p:Str×Nat×Pos
 b:RepP
 c:RepP
 c1:Nat
 c2:Nat
abbrev Iq(nm:List Str)(a:Expr)(op:Operator)(b:Expr):Option EscP:=
 (AY a).bind λp=>G1 (isAdd op) ((KL b).bind λb=>(KL b.x).bind λc=>(xC c.y.cps.toList).bind λc1=>(xC b.y.cps.toList).bind λc2=>
  G1 (iU c.x && nm[8]? ==some c.r && nm[8]? ==some b.r && (c.p1.endLine==c.p2.line) && (b.p1.endLine==b.p2.line)) (some ⟨p,b,c,c1,c2⟩))
abbrev JU:CmpOp->CO
 | .Eq=> .eq | .NotEq=> .ne | .Lt=> .lt | .LtE=> .le | .Gt=> .gt | .GtE=> .ge | .Is=> .is | .IsNot=> .isnot | .In=> .isin | .NotIn=> .notin
abbrev Pu:Operator->Option O2
 | .Add=>some .add | .Sub=>some .sub | .Mult=>some .mul | .FloorDiv=>some .fdiv | .Mod=>some .mod | .Pow=>some .pow | .LShift=>some .shl | .RShift=>some .shr | .BitAnd=>some .band
 | _=>none
abbrev jH:Expr->Option Str
 | .Name x _=>some x
 | _=>none
abbrev qW(out:Scope)(sc:Scope):Scope:={sc with names:=sc.names.map fun(n,k)=>if k== .free && out.kind== .function && out.names.lookup n==some .cell then(n, .cell)else(n,k)}
abbrev CZ:List (PyData×PyData)->Option (List (Int×List Nat))
 | []=>some []
 | (.int i, .str s)::r=>(CZ r).map ((i,s.cps.toList)::·)
 | _=>none
abbrev rJ(cx:CX):Expr->Option PT
 | .Name x _=>(cx.slot x).map .one
 | .Tuple es _ _=>(es.mapM λe=>(jH e).bind cx.slot).map .many
 | _=>none
abbrev PT.slots:PT->List Nat
 | .one i=> [i]
 | .many is=>is
abbrev pF(sc:Scope):List Str:=(sc.names.filter fun(x,k)=>k== .local && !(x==Q9)).map (·.1)
abbrev CX.inner(cx:CX)(sc:Scope):CX:=
 {cx with scope:=qW cx.scope sc,slots:=((pF sc).zip (iq cx.nxt (pF sc).length))++(cx.slots.filter fun(x,zz)=>(sc.names.lookup x)==some .free),nxt:=cx.nxt+(pF sc).length}
abbrev Ar:List E->Option (Option E)
 | []=>some none
 | [c]=>some (some c)
 | _=>none
abbrev G0(cx:CX)(sc:Scope)(pt:PT):Bool:=
 sc.kind== .function && sc.names.all (fun(x,k)=>k != .local || sc.names.lookup x==some .local) && sc.names.all (fun(x,k)=>k != .cell) &&
 sc.names.all (fun(x,k)=>k != .free || (cx.scope.names.lookup x==some .cell)) && pt.slots.all (dm cx.nxt) && (iq cx.nxt (pF sc).length).all pt.slots.contains
abbrev jM(mk:E->E->E):List E->E
 | []=> .fail
 | x::r=>match r with
  | []=>x
  | _::_=>mk x (jM mk r)
abbrev Qo:BoolOp->E->E->E
 | .And=> .and
 | .Or=> .or
abbrev Jz:Const->E
 | .none=> .lit .none
 | .bool b=> .lit (.bool b)
 | .int i=> .lit (.int i)
 | .str s=> .lit (.str s.cps.toList)
 | _=> .fail
abbrev Gv.asVal:Gv->Option AV
 | .val v=>some v
 | _=>none
abbrev Gv.asIK:Gv->Option IK
 | .ty k=>some k
 | .cls c=>some (.cls c)
 | .bi .int=>some .int
 | _=>none
abbrev Gv.isRev:Gv->Bool
 | .rev=>true
 | _=>false
abbrev Gv.isEnum:Gv->Bool
 | .enum=>true
 | _=>false
abbrev nv(cx:CX)(x:Str):E:=match cx.slot x with
 | some i=> .v i
 | none=>pG ((cx.gv x).bind Gv.asVal) .lit
abbrev qd(f:Expr->E)(nm:List Str)(a:Expr)(op:Operator)(b:Expr):E:=match Iq nm a op b with
 | some z=> .esc z.p.1.cps.toList (f z.c.x) z.c1 z.c.z.cps.toList z.c2 z.b.z.cps.toList
 | none=>pG (Pu op) λo=> .o o (f a) (f b)
abbrev Fq(f:Expr->E)(op:UnaryOp)(a:Expr):E:=match op with
 | .USub=> .neg (f a)
 | .Not=> .not (f a)
 | _=> .fail
abbrev wu(f:Expr->E)(a:Expr)(ops:List CmpOp)(bs:List Expr):E:=match ops with
 | []=> .fail
 | o::ops=>match bs with
  | []=> .fail
  | b::bs=>match ops with
   | []=>match bs with
    | []=>wV (!cY o b) (.j (JU o) (f a) (f b))
    | _::_=> .fail
   | o'::ops=>match bs with
    | []=> .fail
    | c::bs=>match ops with
     | _::_=> .fail
     | []=>match bs with
      | _::_=> .fail
      | []=>wV (!cY o b) (wV (!cY o' c) (.chain (f a) (JU o) (f b) (JU o') (f c)))
abbrev IC(f:Expr->E)(cx:CX)(args:List Expr):E:=pG (Bh args) λp=>pG (jH p.2) λx=>pG ((cx.gv x).bind Gv.asIK) λk=> .h (f p.1) k
abbrev Fu(f:Expr->E)(cx:CX)(args:List Expr):Gv->E
 | .fn i=> .call i (args.map f)
 | .cls i=> .new i (args.map f)
 | .bi b=> .bi b (args.map f)
 | .isinst=>IC f cx args
 | _=> .fail
structure DgetP where
 ks:List (Option Expr)
 vs:List Expr
 p:Pos
 k:Expr
 d:Expr
 D:List (PyData×PyData)
 t:List (Int×List Nat)
abbrev BK(o:Expr)(i:Nat)(args:List Expr):Option DgetP:=
 (BJ o).bind λz=>(Bh args).bind λq=>(litPairs z.1 z.2.1).bind λD=>(CZ D).bind λt=>
  G1 (i==2 && intKeyed D && decide (intKeysOf D).Nodup && z.1.all (·.isSome) && z.1.length==z.2.1.length && cf z.1.length 16 && !z.1.isEmpty) (some ⟨z.1,z.2.1,z.2.2,q.1,q.2,D,t⟩)
structure RevP where
 g:Str
 gp:Pos
 x:Expr
 p:Pos
abbrev ny(cx:CX)(q:Gv->Bool)(e:Expr):Option RevP:=
 (Ax e).bind λc=>match c.1 with
  | .Name g gp=>(xC c.2.1).bind λx=>(cx.gv g).bind λv=>G1 (q v && cu x) (some ⟨g,gp,x,c.2.2⟩)
  | _=>none
abbrev KI(cx:CX)(i:Nat)(args:List Expr):Option RevP:=(xC args).bind λa=>G1 (i==6) (ny cx Gv.isRev a)
abbrev Fs(f:Expr->E)(cx:CX)(o:Expr)(i:Nat)(args:List Expr):E:=match BK o i args with
 | some z=> .dget z.t (f z.k) (f z.d)
 | none=>match KI cx i args with
  | some z=> .joinrev (f o) (f z.x)
  | none=> .meth (f o) i (args.map f)
abbrev tM(f:Expr->E)(cx:CX)(g:Expr)(args:List Expr)(pos:Pos):E:=match g with
 | .Name g _=>wV (kU args) (pG (cx.gv g) (Fu f cx args))
 | .Attribute o m apos=>wV (eZ o apos pos args) (pG (tw m cx.nm) λi=>Fs f cx o i args)
 | _=> .fail
abbrev qc(f:Expr->E)(a b:Expr):E:=match mA b with
 | some z=>wV z.2.2.1.isNone (.slice (f a) (z.1.map f) (z.2.1.map f))
 | none=> .idx (f a) (f b)
abbrev PT.isMany:PT->Bool
 | .many _=>true
 | _=>false
abbrev Ft(g:CX->Expr->E)(cx:CX)(elt:Expr)(sc:Scope)(c:Comprehension):E:=
 wV (c.is_async==0) (pG (rJ (cx.inner sc) c.target) λpt=>pG (Ar (c.ifs.map (g (cx.inner sc)))) λcnd=>wV (G0 cx sc pt) (match ny cx Gv.isEnum c.iter with
  | some z=>wV pt.isMany (.comp (g (cx.inner sc) elt) pt (g cx z.x) true cnd)
  | none=> .comp (g (cx.inner sc) elt) pt (g cx c.iter) false cnd))
abbrev cj:Nat->CX->Expr->E
 | 0,_,_=> .fail
 | n+1,cx,e=>match e with
  | .Constant c _ _=>Jz c
  | .Name x _=>nv cx x
  | .BoolOp op es _=>wV (cf 1 es.length) (jM (Qo op) (es.map (cj n cx)))
  | .BinOp a op b _=>qd (cj n cx) cx.nm a op b
  | .UnaryOp op a _=>Fq (cj n cx) op a
  | .IfExp c a b _=> .ife (cj n cx c) (cj n cx a) (cj n cx b)
  | .Compare a ops bs _=>wu (cj n cx) a ops bs
  | .Call g args kws pos=>match kws with
   | []=>tM (cj n cx) cx g args pos
   | _::_=> .fail
  | .Attribute a f _=>wV (iU a) (pG (tw f cx.nm) λi=> .aT (cj n cx a) i)
  | .Subscript a b _=>qc (cj n cx) a b
  | .List es _=>wV (es.all cu) (.list (es.map (cj n cx)))
  | .Tuple es _ _=>wV (es.all cu) (.U (es.map (cj n cx)))
  | .Dict ks vs _=>wV (ks.isEmpty && vs.isEmpty) .dict0
  | .ListComp elt gens sc _=>pG (xC gens) (Ft (cj n) cx elt sc)
  | _=> .fail
abbrev KJ{α β:Type}(b:Bool)(o:Option α)(k:α->β):Option β:=match b with
 | true=>o.map k
 | false=>none
abbrev mM:Nat->CX->Expr->Option T
 | 0,_,_=>none
 | n+1,cx,e=>match e with
  | .Name x _=>(cx.slot x).map .v
  | .Attribute a f _=>KJ (iU a) (tw f cx.nm) (.aT (cj 100 cx a))
  | .Subscript a b _=>match mA b with
   | some zz=>none
   | none=>some (.idx (cj 100 cx a) (cj 100 cx b))
  | .Tuple es _ _=>KJ (es.all cu) (es.mapM (mM n cx)) .U
  | _=>none
set_option backward.match.sparseCases true in
noncomputable def jn(sc:Scope)(ts vs:List Expr):Option (Option (List Str)):=
 if !(ts.length==2 || ts.length==3) || vs.length !=ts.length || sc.kind != .function then some none else
 if vs.any (λ| .Starred .. =>true | _=>false)then some none else
 let line:=(ts.head?.map (·.pos.line)).getD 0;let names:=ts.filterMap fun
  | .Name id pos=>if sc.names.lookup id==some .local && pos.line==line then some id else none
  | _=>none
 if names.length !=ts.length || names.eraseDups.length !=names.length then some none else
 if vs.all (foldedForSure 8)then some none else
 if vs.all (constantsAlone 8)then none else some (some names)
abbrev DF(sc:Scope):Expr->Expr->Bool
 | .Tuple ts _ _, .Tuple vs _ _=>match jn sc ts vs with
  | none=>false
  | some none=>true
  | some (some ns)=>decide ns.Nodup && decide (ns.map some=ts.map jH)
 | .List _ _,_=>false
 | _,_=>true
abbrev kJ:Expr->Bool
 | .ListComp .. =>false
 | .SetComp .. =>false
 | .DictComp .. =>false
 | _=>true
abbrev G8{α:Type}(o:Option α)(k:α->S):S:=match o with
 | some a=>k a
 | none=> .fail
abbrev QB(b:Bool)(c:S):S:=match b with
 | true=>c
 | false=> .fail
abbrev IB(hs:List ExceptHandler)(o f:List Stmt)(b:List S):S:=match hs with
 | []=> .fail
 | _::_=>match o with
  | _::_=> .fail
  | []=>match f with
   | _::_=> .fail
   | []=> .try_ b
abbrev j6:Nat->CX->Stmt->S
 | 0,_,_=> .fail
 | n+1,cx,s=>match s with
  | .Expr e _=>QB (kJ e) (.expr (cj 100 cx e))
  | .Return e _=>match e with
   | some e=> .ret (cj 100 cx e)
   | none=> .retn
  | .Assign ts e _=>G8 (xC ts) λt=>QB (DF cx.scope t e) (G8 (mM 10 cx t) λt=> .aS t (cj 100 cx e))
  | .If c a b _=> .ite (cj 100 cx c) (a.map (j6 n cx)) (b.map (j6 n cx))
  | .While c b o _=>match o with
   | []=> .while (cj 100 cx c) (b.map (j6 n cx))
   | _::_=> .fail
  | .For t it b o _=>match o with
   | []=>G8 (rJ cx t) λpt=> .for pt (cj 100 cx it) (b.map (j6 n cx))
   | _::_=> .fail
  | .Pass _=> .pass
  | .Continue _=> .cont
  | .Try b hs o f _=>IB hs o f (b.map (j6 n cx))
  | _=> .fail
abbrev Au(glob:List (Str×Gv))(nm:List Str)(params:Arguments)(dfl:List AV)(scope:Scope)(body:List Stmt):Fn:=
 let ps:=params.args.map (·.arg);let more:=(scope.names.filter fun(x,k)=>(k== .local || k== .cell) && !ps.contains x).map (·.1);let ns:=ps++more;let cx:CX:={scope,slots:=ns.zip (cR ns.length),nxt:=ns.length,glob,nm}
 {np:=ps.length,dfl,nl:=ns.length+2,body:=body.map (j6 40 cx)}
structure Pg where
 fns:List Fn
 clss:List Cls
 objs:List Nat
noncomputable abbrev aN(s:List Nat):Str:=⟨s.toArray⟩
abbrev ve:BI->Value
 | .abs=> .builtin "abs"
 | .chr=> .builtin "chr"
 | .ord=> .builtin "ord"
 | .len=> .builtin "len"
 | .divmod=> .builtin "divmod"
 | .int=> .type "int"
 | .list=> .type "list"
 | .max=> .builtin "max"
 | .min=> .builtin "min"
 | .str=> .type "str"
 | .tuple=> .type "tuple"
 | .all=> .builtin "all"
 | .range=> .type "range"
abbrev Ah(K:Frag)(C:Addr)(n:Str):Bool:=plainGet K C n && hasDictIn K C && findIn K (.ref C) n==some none &&
 findIn K (.ref C) "__setattr__"==some (some (.builtin "object.__setattr__")) && plainOver K C
abbrev Br(K:Frag)(C:Addr)(n:Str)(f:Addr):Bool:=plainGet K C n && findIn K (.ref C) n==some (some (.ref f)) && isFn K (.ref f) && keepIn K (.ref f)
abbrev IE(K:Frag)(C:Addr):Bool:=plainGet K C "__class__" && hasDictIn K C && findIn K (.ref C) "__class__"==some (some (.builtin "object.__class__")) && mroIn K C (.type "object")==some true &&
 isIn K (.ref C) C && isNotIn K "int" C && isNotIn K "bool" C && kin_notT K C "bool" && kin_notT K C "int"
abbrev j8(p:Arguments):Bool:=p.posonlyargs.isEmpty && p.vararg.isNone && p.kwonlyargs.isEmpty && p.kwarg.isNone
abbrev BL(oa:List Addr):Value->Option AV
 | .none=>some .none
 | .bool b=>some (.bool b)
 | .int i _=>some (.int i)
 | .str s _=>some (.str s.cps.toList)
 | .ref a=>(oa.findIdx? (· ==a)).map .obj
 | _=>none
abbrev oV(oa:List Addr):List Value->Option (List AV)
 | []=>some []
 | v::r=>match BL oa v,oV oa r with
  | some x,some y=>some (x::y)
  | _,_=>none
abbrev rY(ps:List Str)(sc:Scope):Bool:=
 sc.kind== .function && !sc.isCoroutine && !sc.isGenerator && sc.names.all (fun(x,k)=>sc.names.lookup x==some k) && decide ((sc.names.map (·.1)).Nodup) && sc.names.all (fun(x,k)=>k != .free) && decide ps.Nodup &&
 ps.all (λp=>sc.names.lookup p==some .local || sc.names.lookup p==some .cell)
end
end Mine.Internal
end
section
namespace Mine.Internal
mutual
abbrev f0:Fn:=⟨0,[],0,[.fail]⟩
abbrev f1:Fn:=⟨2,[],4,[(.aS (.aT (.v 0) 11) (.v 1))]⟩
abbrev f2:Fn:=⟨3,[],5,[(.aS (.aT (.v 0) 12) (.v 1)),(.aS (.aT (.v 0) 13) (.v 2))]⟩
abbrev f3:Fn:=⟨1,[],3,[(.aS (.aT (.v 0) 14) (.list [])),(.aS (.aT (.v 0) 15) .dict0)]⟩
abbrev f4:Fn:=⟨2,[],5,[(.aS (.v 2) (.meth (.aT (.v 0) 15) 2 [(.v 1),(.lit .none)])),(.ite (.j .is (.v 2) (.lit .none)) [(.aS (.v 2) (.new 1 [(.bi .len [(.aT (.v 0) 14)]),(.v 1)])),(.expr (.meth (.aT (.v 0) 14) 0 [(.v 2)])),(.aS (.idx (.aT (.v 0) 15) (.v 1)) (.v 2))] []),(.ret (.v 2))]⟩
abbrev f5:Fn:=⟨0,[],0,[.fail]⟩
abbrev f7:Fn:=⟨2,[],4,[(.ret (.meth (.aT (.v 0) 15) 2 [(.v 1),(.lit .none)]))]⟩
abbrev SX:Fn:=⟨3,[],5,[(.aS (.aT (.v 0) 16) (.v 1)),(.aS (.aT (.v 0) 17) (.v 2))]⟩
abbrev SW:Fn:=⟨2,[],4,[(.aS (.aT (.v 0) 18) (.v 1))]⟩
abbrev SV:Fn:=⟨2,[],4,[(.aS (.aT (.v 0) 19) (.v 1))]⟩
abbrev SU:Fn:=⟨2,[],4,[(.aS (.aT (.v 0) 20) (.v 1))]⟩
abbrev SS:Fn:=⟨1,[],3,[(.ret (.new 5 [(.comp (.bi .ord [(.v 1)]) (.one 1) (.v 0) false none)]))]⟩
abbrev SR:Fn:=⟨1,[],3,[(.ret (.meth (.lit (.str [])) 6 [(.comp (.bi .chr [(.v 1)]) (.one 1) (.aT (.v 0) 19) false none)]))]⟩
abbrev SQ:Fn:=⟨2,[(.obj 0)],6,[(.aS (.v 2) (.v 1)),(.for (.one 3) (.bi .range [(.o .sub (.bi .len [(.v 0)]) (.lit (.int 1))),(.neg (.lit (.int 1))),(.neg (.lit (.int 1)))]) [(.aS (.v 2) (.new 3 [(.idx (.v 0) (.v 3)),(.v 2)]))]),(.ret (.v 2))]⟩
abbrev SP:Fn:=⟨1,[],3,[(.ret (.h (.v 0) .bool))]⟩
abbrev SO:Fn:=⟨3,[],5,[(.aS (.aT (.v 0) 30) (.v 1)),(.aS (.aT (.v 0) 31) (.v 2))]⟩
abbrev SN:Fn:=⟨1,[],3,[(.ret (.h (.v 0) (.cls 16)))]⟩
abbrev SM:Fn:=⟨1,[],3,[(.ret (.o .sub (.j .gt (.v 0) (.lit (.int 0))) (.j .lt (.v 0) (.lit (.int 0)))))]⟩
abbrev SL:Fn:=⟨1,[],3,[(.ret (.call 30 [(.aT (.v 0) 30)]))]⟩
abbrev SK:Fn:=⟨1,[],3,[(.ret (.new 16 [(.bi .abs [(.aT (.v 0) 30)]),(.aT (.v 0) 31)]))]⟩
abbrev SJ:Fn:=⟨3,[],5,[(.aS (.aT (.v 0) 32) (.v 1)),(.aS (.aT (.v 0) 33) (.v 2))]⟩
abbrev SI:Fn:=⟨2,[],4,[(.aS (.U [(.v 0),(.v 1)]) (.U [(.bi .abs [(.v 0)]),(.bi .abs [(.v 1)])])),(.while (.j .ne (.v 1) (.lit (.int 0))) [(.aS (.U [(.v 0),(.v 1)]) (.U [(.v 1),(.o .mod (.v 0) (.v 1))]))]),(.ret (.v 0))]⟩
abbrev Q7:Fn:=⟨2,[],4,[(.ret (.ife (.j .eq (.v 1) (.lit (.int 1))) (.v 0) (.new 17 [(.v 0),(.v 1)])))]⟩
abbrev Q6:Fn:=⟨2,[],5,[(.ite (.j .lt (.v 1) (.lit (.int 0))) [(.aS (.U [(.v 0),(.v 1)]) (.U [(.o .sub (.lit (.int 0)) (.v 0)),(.o .sub (.lit (.int 0)) (.v 1))]))] []),(.aS (.v 2) (.call 43 [(.v 0),(.v 1)])),(.ret (.call 44 [(.o .fdiv (.v 0) (.v 2)),(.o .fdiv (.v 1) (.v 2))]))]⟩
abbrev Q5:Fn:=⟨2,[],6,[(.ite (.j .eq (.v 0) (.lit (.int 0))) [(.ret (.lit (.str [48])))] []),(.aS (.v 2) (.list [])),(.while (.j .gt (.v 0) (.lit (.int 0))) [(.aS (.U [(.v 0),(.v 3)]) (.bi .divmod [(.v 0),(.v 1)])),(.expr (.meth (.v 2) 0 [(.idx (.lit (.str [48,49,50,51,52,53,54,55,56,57,97,98,99,100,101,102])) (.v 3))]))]),(.ret (.joinrev (.lit (.str [])) (.v 2)))]⟩
abbrev SH:Fn:=⟨2,[],4,[(.ret (.o .add (.ife (.j .lt (.v 0) (.lit (.int 0))) (.lit (.str [45])) (.lit (.str []))) (.call 46 [(.bi .abs [(.v 0)]),(.v 1)])))]⟩
abbrev Q4:Fn:=⟨2,[],4,[(.ite (.h (.v 0) (.cls 17)) [(.ret (.o .add (.o .add (.call 47 [(.aT (.v 0) 32),(.v 1)]) (.lit (.str [47]))) (.call 47 [(.aT (.v 0) 33),(.v 1)])))] []),(.ret (.call 47 [(.v 0),(.v 1)]))]⟩
abbrev Q3:Fn:=⟨2,[],7,[(.ite (.j .eq (.call 39 [(.v 1)]) (.lit (.int 0))) [(.ret (.lit (.str [48,46,48])))] []),(.aS (.U [(.v 2),(.v 3)]) (.call 57 [(.v 0),(.call 40 [(.v 1)])])),(.aS (.U [(.v 4),(.v 3)]) (.call 58 [(.call 46 [(.v 2),(.lit (.int 10))]),(.v 3)])),(.ret (.o .add (.ife (.j .lt (.call 39 [(.v 1)]) (.lit (.int 0))) (.lit (.str [45])) (.lit (.str []))) (.call 59 [(.v 4),(.v 3)])))]⟩
abbrev Q2:Fn:=⟨3,[(.int 10)],7,[(.ite (.not (.call 28 [(.v 1)])) [(.ret (.call 48 [(.v 1),(.v 2)]))] []),(.ite (.j .eq (.v 2) (.lit (.int 10))) [(.ret (.call 60 [(.v 0),(.v 1)]))] []),(.aS (.U [(.v 3),(.v 4)]) (.call 37 [(.v 1)])),(.ret (.o .add (.lit (.str [35,105])) (.call 48 [(.call 45 [(.v 3),(.v 4)]),(.v 2)])))]⟩
abbrev SG:Fn:=⟨2,[],6,[(.aS (.v 2) (.lit (.int 0))),(.for (.one 3) (.v 0) [(.aS (.v 2) (.o .add (.o .mul (.v 2) (.v 1)) (.meth (.lit (.str [48,49,50,51,52,53,54,55,56,57,97,98,99,100,101,102])) 5 [(.v 3)])))]),(.ret (.v 2))]⟩
abbrev SF:Fn:=⟨2,[],4,[(.ret (.bi .all [(.comp (.j .isin (.v 2) (.slice (.lit (.str [48,49,50,51,52,53,54,55,56,57,97,98,99,100,101,102])) none (some (.v 1)))) (.one 2) (.v 0) false none)]))]⟩
abbrev SE:Fn:=⟨1,[],4,[(.aS (.v 1) (.meth (.v 0) 9 [(.lit (.str [35]))])),(.ret (.U [(.v 1),(.o .sub (.bi .len [(.v 0)]) (.bi .len [(.v 1)]))]))]⟩
abbrev SD:Fn:=⟨4,[],6,[(.aS (.aT (.v 0) 32) (.v 1)),(.aS (.aT (.v 0) 33) (.v 2)),(.aS (.aT (.v 0) 38) (.v 3))]⟩
abbrev SA:Fn:=⟨2,[],6,[(.aS (.U [(.v 2),(.v 3)]) (.call 64 [(.v 0)])),(.ite (.or (.j .eq (.v 2) (.lit (.str []))) (.not (.call 63 [(.v 2),(.v 1)]))) [(.ret (.lit .none))] []),(.ret (.new 19 [(.o .mul (.call 62 [(.v 2),(.v 1)]) (.o .pow (.v 1) (.v 3))),(.lit (.int 1)),(.j .eq (.v 3) (.lit (.int 0)))]))]⟩
abbrev Sz:Fn:=⟨2,[],7,[(.aS (.v 2) (.meth (.v 0) 10 [(.lit (.str [47]))])),(.ite (.j .ne (.bi .len [(.v 2)]) (.lit (.int 2))) [(.ret (.lit .none))] []),(.aS (.U [(.v 3),(.v 4)]) (.U [(.call 66 [(.idx (.v 2) (.lit (.int 0))),(.v 1)]),(.call 66 [(.idx (.v 2) (.lit (.int 1))),(.v 1)])])),(.ite (.or (.j .is (.v 3) (.lit .none)) (.or (.j .is (.v 4) (.lit .none)) (.j .eq (.aT (.v 4) 32) (.lit (.int 0))))) [(.ret (.lit .none))] []),(.ret (.new 19 [(.aT (.v 3) 32),(.aT (.v 4) 32),(.and (.aT (.v 3) 38) (.aT (.v 4) 38))]))]⟩
abbrev Sy:Fn:=⟨1,[],4,[(.aS (.v 1) (.comp (.v 2) (.many [2,3]) (.v 0) true (some (.j .isin (.v 3) (.lit (.str [101,115,102,100,108])))))),(.ret (.ife (.j .ne (.v 1) (.list [])) (.idx (.v 1) (.lit (.int 0))) (.bi .len [(.v 0)])))]⟩
abbrev Q1:Fn:=⟨2,[],4,[(.ite (.j .isin (.lit (.str [47])) (.v 0)) [(.ret (.call 67 [(.v 0),(.v 1)]))] []),(.ite (.and (.j .eq (.v 1) (.lit (.int 10))) (.or (.j .isin (.lit (.str [46])) (.v 0)) (.j .lt (.call 70 [(.v 0)]) (.bi .len [(.v 0)])))) [(.ret (.call 72 [(.v 0)]))] []),(.ret (.call 66 [(.v 0),(.v 1)]))]⟩
abbrev Sx:Fn:=⟨2,[],8,[(.aS (.U [(.v 2),(.v 3),(.v 4)]) (.U [(.lit (.str [])),(.lit (.bool false)),(.lit (.int 0))])),(.while (.j .eq (.slice (.v 0) (some (.v 4)) (some (.o .add (.v 4) (.lit (.int 1))))) (.lit (.str [35]))) [(.aS (.v 5) (.slice (.v 0) (some (.o .add (.v 4) (.lit (.int 1)))) (some (.o .add (.v 4) (.lit (.int 2)))))),(.ite (.and (.j .isin (.v 5) .fail) (.not (.v 3))) [(.aS (.U [(.v 1),(.v 3)]) (.U [(.idx .fail (.v 5)),(.lit (.bool true))]))] [(.ite (.and (.j .isin (.v 5) (.U [(.lit (.str [101])),(.lit (.str [105]))])) (.j .eq (.v 2) (.lit (.str [])))) [(.aS (.v 2) (.v 5))] [(.ret (.lit .none))])]),(.aS (.v 4) (.o .add (.v 4) (.lit (.int 2))))]),(.ret (.U [(.slice (.v 0) (some (.v 4)) none),(.v 1),(.v 2)]))]⟩
abbrev Sw:Fn:=⟨4,[],6,[(.ite (.v 3) [(.ret (.call 45 [(.v 1),(.v 2)]))] []),(.try_ [(.ret (.call 36 [(.v 0),(.v 1),(.v 2)]))])]⟩
abbrev Sv:Fn:=⟨3,[(.int 10)],11,[(.aS (.v 3) (.call 74 [(.meth (.v 1) 7 []),(.v 2)])),(.ite (.j .is (.v 3) (.lit .none)) [(.ret (.lit .none))] []),(.aS (.U [(.v 4),(.v 2),(.v 5)]) (.v 3)),(.aS (.v 6) (.ife (.j .eq (.slice (.v 4) none (some (.lit (.int 1)))) (.lit (.str [45]))) (.neg (.lit (.int 1))) (.lit (.int 1)))),(.aS (.v 7) (.call 73 [(.ife (.j .isin (.slice (.v 4) none (some (.lit (.int 1)))) (.U [(.lit (.str [43])),(.lit (.str [45]))])) (.slice (.v 4) (some (.lit (.int 1))) none) (.v 4)),(.v 2)])),(.ite (.j .is (.v 7) (.lit .none)) [(.ret (.lit .none))] []),(.aS (.v 8) (.or (.j .eq (.v 5) (.lit (.str [101]))) (.and (.j .eq (.v 5) (.lit (.str []))) (.aT (.v 7) 38)))),(.ret (.call 75 [(.v 0),(.o .mul (.v 6) (.aT (.v 7) 32)),(.aT (.v 7) 33),(.v 8)]))]⟩
abbrev Su:Fn:=⟨5,[],7,[(.aS (.aT (.v 0) 23) (.v 1)),(.aS (.aT (.v 0) 39) (.v 2)),(.aS (.aT (.v 0) 40) (.v 3)),(.aS (.aT (.v 0) 41) (.v 4))]⟩
abbrev Ss:Fn:=⟨1,[],6,[(.aS (.v 1) (.list [])),(.for (.one 2) (.v 0) [(.aS (.v 3) (.meth (.lit (.str [65,66,67,68,69,70,71,72,73,74,75,76,77,78,79,80,81,82,83,84,85,86,87,88,89,90])) 4 [(.v 2)])),(.expr (.meth (.v 1) 0 [(.ife (.j .lt (.v 3) (.lit (.int 0))) (.v 2) (.idx (.lit (.str [97,98,99,100,101,102,103,104,105,106,107,108,109,110,111,112,113,114,115,116,117,118,119,120,121,122])) (.v 3)))]))]),(.ret (.meth (.lit (.str [])) 6 [(.v 1)]))]⟩
abbrev Sr:Fn:=⟨1,[],3,[(.ret (.or (.j .isin (.v 0) (.lit (.str [97,98,99,100,101,102,103,104,105,106,107,108,109,110,111,112,113,114,115,116,117,118,119,120,121,122]))) (.j .isin (.v 0) (.lit (.str [33,36,37,38,42,47,58,60,61,62,63,94,95,126])))))]⟩
abbrev Sp:Fn:=⟨1,[],4,[(.ite (.j .isin (.v 0) (.lit (.U [(.str [43]),(.str [45]),(.str [46,46,46])]))) [(.ret (.lit (.bool true)))] []),(.ite (.or (.j .eq (.v 0) (.lit (.str []))) (.not (.call 79 [(.idx (.v 0) (.lit (.int 0)))]))) [(.ret (.lit (.bool false)))] []),(.for (.one 1) (.slice (.v 0) (some (.lit (.int 1))) none) [(.ite (.not (.call 80 [(.v 1)])) [(.ret (.lit (.bool false)))] [])]),(.ret (.lit (.bool true)))]⟩
abbrev So:Fn:=⟨1,[],3,[(.ret (.or (.j .isin (.idx (.v 0) (.lit (.int 0))) (.lit (.str [48,49,50,51,52,53,54,55,56,57]))) (.j .isin (.idx (.v 0) (.lit (.int 0))) (.lit (.str [43,45,46])))))]⟩
abbrev PM:Fn:=⟨1,[],5,[(.for (.many [1,2]) (.lit (.U [(.U [(.str [115,112,97,99,101]),(.str [32])]),(.U [(.str [110,101,119,108,105,110,101]),(.str [10])])])) [(.ite (.j .eq (.v 2) (.v 0)) [(.ret (.v 1))] [])]),(.ret (.lit .none))]⟩
abbrev Sn:Fn:=⟨4,[(.int 53),(.bool true)],6,[(.aS (.aT (.v 0) 13) (.v 1)),(.aS (.aT (.v 0) 42) (.v 2)),(.aS (.aT (.v 0) 26) (.lit (.int 0))),(.aS (.aT (.v 0) 43) (.v 3))]⟩
abbrev Q0:Fn:=⟨1,[],5,[(.while (.j .lt (.aT (.v 0) 26) (.bi .len [(.aT (.v 0) 13)])) [(.aS (.v 1) (.idx (.aT (.v 0) 13) (.aT (.v 0) 26))),(.ite (.j .eq (.v 1) (.lit (.str [59]))) [(.aS (.v 2) (.meth (.aT (.v 0) 13) 4 [(.lit (.str [10])),(.aT (.v 0) 26)])),(.aS (.aT (.v 0) 26) (.ife (.j .lt (.v 2) (.lit (.int 0))) (.bi .len [(.aT (.v 0) 13)]) (.v 2)))] [(.ite (.j .isin (.v 1) (.lit (.str [32,10,9,13,12]))) [(.aS (.aT (.v 0) 26) (.o .add (.aT (.v 0) 26) (.lit (.int 1))))] [.retn])])])]⟩
abbrev JL:Fn:=⟨1,[],6,[(.expr (.meth (.v 0) 61 [])),(.aS (.v 1) (.aT (.v 0) 26)),(.ite (.j .eq (.v 1) (.bi .len [(.aT (.v 0) 13)])) [(.ret (.new 20 [(.lit (.str [101,110,100])),(.lit .none),(.v 1),(.v 1)]))] []),(.aS (.v 2) (.idx (.aT (.v 0) 13) (.v 1))),(.ite (.j .isin (.v 2) (.lit (.str [40,41,39,96]))) [(.ret (.meth (.v 0) 64 [(.v 2),(.lit .none),(.o .add (.v 1) (.lit (.int 1)))]))] []),(.ite (.j .eq (.v 2) (.lit (.str [44]))) [(.aS (.v 3) (.ife (.j .eq (.slice (.aT (.v 0) 13) (some (.o .add (.v 1) (.lit (.int 1)))) (some (.o .add (.v 1) (.lit (.int 2))))) (.lit (.str [64]))) (.lit (.str [44,64])) (.lit (.str [44])))),(.ret (.meth (.v 0) 64 [(.v 3),(.lit .none),(.o .add (.v 1) (.bi .len [(.v 3)]))]))] []),(.ite (.j .eq (.v 2) (.lit (.str [34]))) [(.ret (.meth (.v 0) 67 []))] []),(.ite (.j .eq (.v 2) (.lit (.str [35]))) [(.ret (.meth (.v 0) 68 []))] []),(.ret (.meth (.v 0) 62 []))]⟩
abbrev Sm:Fn:=⟨4,[],7,[(.aS (.v 4) (.aT (.v 0) 26)),(.aS (.aT (.v 0) 26) (.v 3)),(.ret (.new 20 [(.v 1),(.v 2),(.v 4),(.v 3)]))]⟩
abbrev Sl:Fn:=⟨2,[],5,[(.aS (.v 2) (.v 1)),(.while (.and (.j .lt (.v 2) (.bi .len [(.aT (.v 0) 13)])) (.j .notin (.idx (.aT (.v 0) 13) (.v 2)) (.lit (.str [32,10,9,13,12,40,41,34,59])))) [(.ite (.j .isin (.idx (.aT (.v 0) 13) (.v 2)) (.lit (.str [91,93,123,125,124]))) [.fail] []),(.aS (.v 2) (.o .add (.v 2) (.lit (.int 1))))]),(.ret (.v 2))]⟩
abbrev MY:Fn:=⟨1,[],7,[(.aS (.v 1) (.aT (.v 0) 26)),(.aS (.v 2) (.meth (.v 0) 63 [(.v 1)])),(.aS (.v 3) (.slice (.aT (.v 0) 13) (some (.v 1)) (some (.v 2)))),(.ite (.j .eq (.v 3) (.lit (.str [46]))) [(.ret (.meth (.v 0) 64 [(.lit (.str [46])),(.lit .none),(.v 2)]))] []),(.aS (.v 4) (.call 78 [(.v 3)])),(.ite (.call 81 [(.v 4)]) [(.ret (.meth (.v 0) 64 [(.lit (.str [115,121,109,98,111,108])),(.ife (.aT (.v 0) 43) (.v 4) (.v 3)),(.v 2)]))] []),(.ite (.not (.call 82 [(.v 3)])) [.fail] []),(.ret (.meth (.v 0) 64 [(.lit (.str [110,117,109,98,101,114])),(.meth (.v 0) 69 [(.v 3),(.v 1)]),(.v 2)]))]⟩
abbrev Sj:Fn:=⟨3,[],6,[(.aS (.v 3) (.call 76 [(.aT (.v 0) 42),(.v 1),(.lit (.int 10))])),(.ite (.j .is (.v 3) (.lit .none)) [.fail] []),(.ret (.v 3))]⟩
abbrev MX:Fn:=⟨1,[],6,[(.aS (.v 1) (.aT (.v 0) 26)),(.aS (.v 2) (.call 78 [(.slice (.aT (.v 0) 13) (some (.o .add (.v 1) (.lit (.int 1)))) (some (.o .add (.v 1) (.lit (.int 2)))))])),(.ite (.j .eq (.v 2) (.lit (.str [40]))) [(.ret (.meth (.v 0) 64 [(.lit (.str [35,40])),(.lit .none),(.o .add (.v 1) (.lit (.int 2)))]))] []),(.ite (.or (.j .eq (.v 2) (.lit (.str [116]))) (.j .eq (.v 2) (.lit (.str [102])))) [(.ret (.meth (.v 0) 64 [(.lit (.str [98,111,111,108,101,97,110])),(.j .eq (.v 2) (.lit (.str [116]))),(.o .add (.v 1) (.lit (.int 2)))]))] []),(.ite (.j .eq (.v 2) (.lit (.str [92]))) [(.ret (.meth (.v 0) 70 []))] []),(.ite (.and (.j .ne (.v 2) (.lit (.str []))) (.j .isin (.v 2) (.lit (.str [98,111,100,120,101,105])))) [(.aS (.v 3) (.meth (.v 0) 63 [(.v 1)])),(.ret (.meth (.v 0) 64 [(.lit (.str [110,117,109,98,101,114])),(.meth (.v 0) 69 [(.slice (.aT (.v 0) 13) (some (.v 1)) (some (.v 3))),(.v 1)]),(.v 3)]))] []), .fail]⟩
abbrev Si:Fn:=⟨1,[],7,[(.aS (.v 1) (.aT (.v 0) 26)),(.ite (.j .eq (.o .add (.v 1) (.lit (.int 2))) (.bi .len [(.aT (.v 0) 13)])) [.fail] []),(.aS (.v 2) (.o .add (.v 1) (.lit (.int 3)))),(.while (.and (.j .lt (.v 2) (.bi .len [(.aT (.v 0) 13)])) (.j .notin (.idx (.aT (.v 0) 13) (.v 2)) (.lit (.str [32,10,9,13,12,40,41,34,59])))) [(.aS (.v 2) (.o .add (.v 2) (.lit (.int 1))))]),(.aS (.v 3) (.slice (.aT (.v 0) 13) (some (.o .add (.v 1) (.lit (.int 2)))) (some (.v 2)))),(.aS (.v 4) (.ife (.j .eq (.bi .len [(.v 3)]) (.lit (.int 1))) (.v 3) (.call 83 [(.v 3)]))),(.ite (.j .is (.v 4) (.lit .none)) [.fail] []),(.ret (.meth (.v 0) 64 [(.lit (.str [99,104,97,114])),(.new 4 [(.bi .ord [(.v 4)])]),(.v 2)]))]⟩
abbrev Sg:Fn:=⟨1,[],7,[(.aS (.v 1) (.aT (.v 0) 26)),(.aS (.v 2) (.list [])),(.aS (.v 3) (.o .add (.v 1) (.lit (.int 1)))),(.while (.lit (.bool true)) [(.ite (.j .ge (.v 3) (.bi .len [(.aT (.v 0) 13)])) [.fail] []),(.aS (.v 4) (.idx (.aT (.v 0) 13) (.v 3))),(.ite (.j .eq (.v 4) (.lit (.str [34]))) [(.ret (.meth (.v 0) 64 [(.lit (.str [115,116,114,105,110,103])),(.call 18 [(.meth (.lit (.str [])) 6 [(.v 2)])]),(.o .add (.v 3) (.lit (.int 1)))]))] []),(.ite (.j .eq (.v 4) (.lit (.str [92]))) [(.aS (.v 3) (.o .add (.v 3) (.lit (.int 1)))),(.aS (.v 4) (.slice (.aT (.v 0) 13) (some (.v 3)) (some (.o .add (.v 3) (.lit (.int 1)))))),(.ite (.j .eq (.v 4) (.lit (.str []))) [.fail] []),(.ite (.and (.j .ne (.v 4) (.lit (.str [34]))) (.j .ne (.v 4) (.lit (.str [92])))) [.fail] [])] []),(.expr (.meth (.v 2) 0 [(.v 4)])),(.aS (.v 3) (.o .add (.v 3) (.lit (.int 1))))])]⟩
abbrev Sf:Fn:=⟨4,[],6,[(.aS (.aT (.v 0) 23) (.v 1)),(.aS (.aT (.v 0) 40) (.v 2)),(.aS (.aT (.v 0) 20) (.v 3)),(.aS (.aT (.v 0) 44) (.lit (.int 0))),(.aS (.aT (.v 0) 45) (.lit (.obj 0)))]⟩
abbrev Se:Fn:=⟨5,[(.int 53),(.bool true)],7,[(.aS (.aT (.v 0) 46) (.new 21 [(.v 1),(.v 3),(.v 4)])),(.aS (.aT (.v 0) 47) (.v 2)),(.aS (.aT (.v 0) 48) (.list []))]⟩
abbrev Sd:Fn:=⟨1,[],3,[(.ret (.aT (.aT (.v 0) 46) 26))]⟩
abbrev QZ:Fn:=⟨1,[],5,[(.aS (.aT (.v 0) 48) (.list [])),(.while (.lit (.bool true)) [(.aS (.v 1) (.meth (.aT (.v 0) 46) 71 [])),(.ite (.j .eq (.aT (.v 1) 23) (.lit (.str [101,110,100]))) [(.ite (.j .eq (.aT (.v 0) 48) (.list [])) [(.ret (.lit (.obj 1)))] []), .fail] []),(.ite (.meth (.v 0) 72 [(.v 1)]) [.cont] []),(.ite (.j .eq (.aT (.v 1) 23) (.lit (.str [46]))) [(.expr (.meth (.v 0) 77 [(.v 1)])), .cont] []),(.aS (.v 2) (.ife (.j .eq (.aT (.v 1) 23) (.lit (.str [41]))) (.meth (.v 0) 78 [(.v 1)]) (.meth (.v 0) 79 [(.v 1)]))),(.ite (.meth (.v 0) 73 [(.v 2),(.aT (.v 1) 40)]) [(.ret (.meth (.v 0) 80 [(.v 2)]))] [])])]⟩
abbrev OV:Fn:=⟨2,[],5,[(.aS (.v 2) (.v 1)),(.while (.j .ne (.aT (.v 0) 48) (.list [])) [(.aS (.v 2) (.meth (.v 0) 74 [(.v 2)]))]),(.ret (.v 2))]⟩
abbrev Io:Fn:=⟨2,[],6,[(.ite (.j .eq (.aT (.v 1) 23) (.lit (.str [40]))) [(.expr (.meth (.aT (.v 0) 48) 0 [(.new 22 [(.lit (.str [108,105,115,116])),(.aT (.v 1) 40),(.list [])])])),(.ret (.lit (.bool true)))] []),(.ite (.j .eq (.aT (.v 1) 23) (.lit (.str [35,40]))) [(.expr (.meth (.aT (.v 0) 48) 0 [(.new 22 [(.lit (.str [118,101,99,116,111,114])),(.aT (.v 1) 40),(.list [])])])),(.ret (.lit (.bool true)))] []),(.for (.many [2,3]) (.lit (.U [(.U [(.str [39]),(.str [113,117,111,116,101])]),(.U [(.str [96]),(.str [113,117,97,115,105,113,117,111,116,101])]),(.U [(.str [44]),(.str [117,110,113,117,111,116,101])]),(.U [(.str [44,64]),(.str [117,110,113,117,111,116,101,45,115,112,108,105,99,105,110,103])])])) [(.ite (.j .eq (.v 2) (.aT (.v 1) 23)) [(.expr (.meth (.aT (.v 0) 48) 0 [(.new 22 [(.lit (.str [113,117,111,116,97,116,105,111,110])),(.aT (.v 1) 40),(.list [(.meth (.aT (.v 0) 47) 75 [(.v 3)])])])])),(.ret (.lit (.bool true)))] [])]),(.ret (.lit (.bool false)))]⟩
abbrev OU:Fn:=⟨2,[],5,[(.ite (.j .eq (.aT (.v 0) 48) (.list [])) [.fail] []),(.aS (.v 2) (.idx (.aT (.v 0) 48) (.neg (.lit (.int 1))))),(.ite (.or (.j .ne (.aT (.v 2) 23) (.lit (.str [108,105,115,116]))) (.or (.j .eq (.aT (.v 2) 20) (.list [])) (.j .ne (.aT (.v 2) 44) (.lit (.int 0))))) [.fail] []),(.aS (.aT (.v 2) 44) (.lit (.int 1)))]⟩
abbrev Fg:Fn:=⟨2,[],5,[(.ite (.j .eq (.aT (.v 0) 48) (.list [])) [.fail] []),(.aS (.v 2) (.idx (.aT (.v 0) 48) (.neg (.lit (.int 1))))),(.ite (.j .eq (.aT (.v 2) 23) (.lit (.str [113,117,111,116,97,116,105,111,110]))) [.fail] []),(.ite (.j .eq (.aT (.v 2) 44) (.lit (.int 1))) [.fail] []),(.expr (.meth (.aT (.v 0) 48) 1 [])),(.ite (.j .eq (.aT (.v 2) 23) (.lit (.str [118,101,99,116,111,114]))) [(.ret (.new 6 [(.aT (.v 2) 20)]))] []),(.ret (.call 20 [(.aT (.v 2) 20),(.aT (.v 2) 45)]))]⟩
abbrev LS:Fn:=⟨2,[],4,[(.ret (.ife (.j .eq (.aT (.v 1) 23) (.lit (.str [115,121,109,98,111,108]))) (.meth (.aT (.v 0) 47) 75 [(.aT (.v 1) 39)]) (.aT (.v 1) 39)))]⟩
abbrev CQ:Fn:=⟨3,[],8,[(.aS (.v 3) (.v 1)),(.aS (.v 4) (.bi .len [(.aT (.v 0) 48)])),(.while (.and (.j .gt (.v 4) (.lit (.int 0))) (.j .eq (.aT (.idx (.aT (.v 0) 48) (.o .sub (.v 4) (.lit (.int 1)))) 23) (.lit (.str [113,117,111,116,97,116,105,111,110])))) [(.aS (.v 4) (.o .sub (.v 4) (.lit (.int 1))))]),(.ite (.j .eq (.v 4) (.lit (.int 0))) [(.ret (.lit (.bool true)))] []),(.while (.j .gt (.bi .len [(.aT (.v 0) 48)]) (.v 4)) [(.aS (.v 3) (.meth (.v 0) 74 [(.v 3)]))]),(.aS (.v 5) (.idx (.aT (.v 0) 48) (.neg (.lit (.int 1))))),(.ite (.j .eq (.aT (.v 5) 44) (.lit (.int 2))) [.fail] []),(.ite (.j .eq (.aT (.v 5) 44) (.lit (.int 1))) [(.aS (.aT (.v 5) 45) (.v 3)),(.aS (.aT (.v 5) 44) (.lit (.int 2)))] [(.expr (.meth (.aT (.v 5) 20) 0 [(.v 3)]))]),(.ret (.lit (.bool false)))]⟩
abbrev OT:Fn:=⟨4,[(.int 53),(.bool true)],9,[(.aS (.v 4) (.new 23 [(.v 0),(.v 1),(.v 2),(.v 3)])),(.aS (.v 5) (.list [])),(.while (.lit (.bool true)) [(.aS (.v 6) (.meth (.v 4) 49 [])),(.ite (.j .is (.v 6) (.lit (.obj 1))) [(.ret (.v 5))] []),(.expr (.meth (.v 5) 0 [(.v 6)]))])]⟩
abbrev OS:Fn:=⟨4,[(.int 53),(.bool true)],9,[(.aS (.v 4) (.new 23 [(.v 0),(.v 1),(.v 2),(.v 3)])),(.aS (.v 5) (.meth (.v 4) 49 [])),(.ite (.j .is (.v 5) (.lit (.obj 1))) [.fail] []),(.aS (.v 6) (.meth (.v 4) 26 [])),(.ite (.j .isnot (.meth (.v 4) 49 []) (.lit (.obj 1))) [.fail] []),(.ret (.v 5))]⟩
abbrev Im:Fn:=⟨1,[],4,[(.aS (.v 1) (.call 84 [(.bi .chr [(.v 0)])])),(.ret (.o .add (.lit (.str [35,92])) (.ife (.j .is (.v 1) (.lit .none)) (.bi .chr [(.v 0)]) (.v 1))))]⟩
abbrev OR:Fn:=⟨1,[],5,[(.aS (.v 1) (.list [(.lit (.str [34]))])),(.for (.one 2) (.call 19 [(.v 0)]) [(.ite (.or (.j .eq (.v 2) (.lit (.str [34]))) (.j .eq (.v 2) (.lit (.str [92])))) [(.expr (.meth (.v 1) 0 [(.lit (.str [92]))]))] []),(.expr (.meth (.v 1) 0 [(.v 2)]))]),(.expr (.meth (.v 1) 0 [(.lit (.str [34]))])),(.ret (.meth (.lit (.str [])) 6 [(.v 1)]))]⟩
abbrev OQ:Fn:=⟨1,[],3,[(.ite (.h (.v 0) (.cls 0)) [(.ret .fail)] []),(.ite (.h (.v 0) (.cls 10)) [(.ret .fail)] []),(.ite (.h (.v 0) (.cls 8)) [(.ret (.lit (.str [35,60,112,114,111,109,105,115,101,62])))] []),(.ite (.h (.v 0) (.cls 7)) [(.ret (.lit (.str [35,60,98,111,120,62])))] []),(.ret (.ife (.h (.v 0) (.cls 9)) .fail (.lit .none)))]⟩
abbrev OP:Fn:=⟨6,[],8,[(.aS (.aT (.v 0) 50) (.v 1)),(.aS (.aT (.v 0) 42) (.v 2)),(.aS (.aT (.v 0) 51) (.v 3)),(.aS (.aT (.v 0) 27) (.v 4)),(.aS (.aT (.v 0) 47) (.v 5)),(.aS (.aT (.v 0) 52) (.list [])),(.aS (.aT (.v 0) 53) (.lit (.int 0))),(.aS (.aT (.v 0) 54) (.list []))]⟩
abbrev OO:Fn:=⟨2,[],6,[(.expr (.meth (.aT (.v 0) 54) 0 [(.U [(.lit (.int 1)),(.v 1)])])),(.while (.j .ne (.aT (.v 0) 54) (.list [])) [(.aS (.U [(.v 2),(.v 3)]) (.meth (.aT (.v 0) 54) 1 [])),(.ite (.j .eq (.v 2) (.lit (.int 0))) [(.expr (.meth (.v 0) 65 [(.v 3)]))] [(.ite (.j .eq (.v 2) (.lit (.int 1))) [(.expr (.meth (.v 0) 29 [(.v 3)]))] [(.expr (.meth (.v 0) 45 [(.v 3)]))])])]),(.ret (.meth (.lit (.str [])) 6 [(.aT (.v 0) 52)]))]⟩
abbrev ON:Fn:=⟨2,[],4,[(.expr (.meth (.aT (.v 0) 52) 0 [(.v 1)])),(.aS (.aT (.v 0) 53) (.o .add (.aT (.v 0) 53) (.bi .len [(.v 1)]))),(.ite (.and (.j .isnot (.aT (.v 0) 27) (.lit .none)) (.j .gt (.aT (.v 0) 53) (.aT (.v 0) 27))) [.fail] [])]⟩
abbrev Il:Fn:=⟨2,[],5,[(.ite (.h (.v 1) (.cls 3)) [(.expr (.meth (.v 0) 76 [(.v 1)]))] [(.ite (.h (.v 1) (.cls 6)) [(.expr (.meth (.v 0) 65 [(.lit (.str [35,40]))])),(.expr (.meth (.aT (.v 0) 54) 0 [(.U [(.lit (.int 0)),(.lit (.str [41]))])])),(.for (.one 2) (.bi .range [(.o .sub (.bi .len [(.aT (.v 1) 20)]) (.lit (.int 1))),(.neg (.lit (.int 1))),(.neg (.lit (.int 1)))]) [(.expr (.meth (.aT (.v 0) 54) 0 [(.U [(.lit (.int 1)),(.idx (.aT (.v 1) 20) (.v 2))])])),(.ite (.j .gt (.v 2) (.lit (.int 0))) [(.expr (.meth (.aT (.v 0) 54) 0 [(.U [(.lit (.int 0)),(.lit (.str [32]))])]))] [])])] [(.expr (.meth (.v 0) 65 [(.meth (.v 0) 79 [(.v 1)])]))])])]⟩
abbrev OM:Fn:=⟨2,[],5,[(.aS (.v 2) (.ife (.j .is (.aT (.v 0) 47) (.lit .none)) (.lit .none) (.call 109 [(.v 1),(.aT (.v 0) 47)]))),(.ite (.j .isnot (.v 2) (.lit .none)) [(.expr (.meth (.v 0) 65 [(.v 2)])),(.expr (.meth (.aT (.v 0) 54) 0 [(.U [(.lit (.int 1)),(.aT (.aT (.v 1) 17) 16)])])), .retn] []),(.expr (.meth (.v 0) 65 [(.lit (.str [40]))])),(.expr (.meth (.aT (.v 0) 54) 0 [(.U [(.lit (.int 2)),(.aT (.v 1) 17)])])),(.expr (.meth (.aT (.v 0) 54) 0 [(.U [(.lit (.int 1)),(.aT (.v 1) 16)])]))]⟩
abbrev Ik:Fn:=⟨2,[],4,[(.ite (.j .is (.v 1) (.lit (.obj 0))) [(.expr (.meth (.v 0) 65 [(.lit (.str [41]))]))] [(.ite (.h (.v 1) (.cls 3)) [(.expr (.meth (.v 0) 65 [(.lit (.str [32]))])),(.expr (.meth (.aT (.v 0) 54) 0 [(.U [(.lit (.int 2)),(.aT (.v 1) 17)])])),(.expr (.meth (.aT (.v 0) 54) 0 [(.U [(.lit (.int 1)),(.aT (.v 1) 16)])]))] [(.expr (.meth (.v 0) 65 [(.lit (.str [32,46,32]))])),(.expr (.meth (.aT (.v 0) 54) 0 [(.U [(.lit (.int 0)),(.lit (.str [41]))])])),(.expr (.meth (.aT (.v 0) 54) 0 [(.U [(.lit (.int 1)),(.v 1)])]))])])]⟩
abbrev Ak:Fn:=⟨2,[],5,[(.ite (.call 21 [(.v 1)]) [(.ret (.ife (.v 1) (.lit (.str [35,116])) (.lit (.str [35,102]))))] []),(.ite (.j .is (.v 1) (.lit (.obj 0))) [(.ret (.lit (.str [40,41])))] []),(.ite (.h (.v 1) (.cls 1)) [(.ret (.aT (.v 1) 13))] []),(.ite (.h (.v 1) (.cls 5)) [(.ret (.ife (.aT (.v 0) 50) (.call 111 [(.v 1)]) (.call 19 [(.v 1)])))] []),(.ite (.h (.v 1) (.cls 4)) [(.ret (.ife (.aT (.v 0) 50) (.call 110 [(.aT (.v 1) 18)]) (.bi .chr [(.aT (.v 1) 18)])))] []),(.aS (.v 2) (.call 112 [(.v 1)])),(.ret (.ife (.j .is (.v 2) (.lit .none)) (.call 61 [(.aT (.v 0) 42),(.v 1),(.aT (.v 0) 51)]) (.v 2)))]⟩
abbrev OL:Fn:=⟨5,[(.int 53),(.int 10), .none, .none],7,[(.ret (.meth (.new 24 [(.lit (.bool true)),(.v 1),(.v 2),(.v 3),(.v 4)]) 55 [(.v 0)]))]⟩
abbrev OK:Fn:=⟨4,[(.int 53),(.int 10), .none],6,[(.ret (.meth (.new 24 [(.lit (.bool false)),(.v 1),(.v 2),(.v 3),(.lit .none)]) 55 [(.v 0)]))]⟩
abbrev OJ:Fn:=⟨2,[],6,[(.aS (.v 2) (.idx (.v 0) (.lit (.int 1)))),(.aS (.idx (.v 0) (.lit (.int 1))) (.o .add (.v 2) (.lit (.int 1)))),(.aS (.v 3) (.ife (.j .lt (.v 2) (.bi .len [(.idx (.v 0) (.lit (.int 0)))])) (.idx (.idx (.v 0) (.lit (.int 0))) (.v 2)) (.o .fdiv (.idx (.v 0) (.lit (.int 2))) (.lit (.int 512))))),(.aS (.idx (.v 0) (.lit (.int 2))) (.o .mod (.o .add (.o .add (.o .add (.o .mul (.idx (.v 0) (.lit (.int 2))) (.lit (.int 69069))) (.o .mod (.v 3) (.lit (.int 1000003)))) (.o .mul (.lit (.int 11)) (.v 2))) (.lit (.int 1))) (.lit (.int 4294967296)))),(.ret (.o .mod (.v 3) (.v 1)))]⟩
abbrev LR:Fn:=⟨2,[],4,[(.ret (.idx (.v 1) (.call 122 [(.v 0),(.bi .len [(.v 1)])])))]⟩
abbrev OI:Fn:=⟨2,[],4,[(.ret (.list [(.comp (.bi .abs [(.v 2)]) (.one 2) (.slice (.v 0) none (some (.v 1))) false none),(.lit (.int 0)),(.o .add (.lit (.int 977)) (.bi .len [(.comp (.v 2) (.one 2) (.slice (.v 0) none (some (.v 1))) false (some (.j .lt (.v 2) (.lit (.int 0)))))]))]))]⟩
abbrev qV:Fn:=⟨2,[],5,[(.ite (.h (.v 0) .bool) [(.ret (.U [(.lit (.str [98,111,111,108,101,97,110])),(.bi .int [(.v 0)])]))] []),(.ite (.h (.v 0) .int) [(.ret (.U [(.lit (.str [119,104,111,108,101])),(.v 0)]))] []),(.ite (.j .is (.v 0) (.lit (.obj 0))) [(.ret (.U [(.lit (.str [101,109,112,116,121])),(.lit (.int 0))]))] []),(.ite (.h (.v 0) (.cls 17)) [(.ret (.U [(.lit (.str [114,97,116,105,111])),(.U [(.aT (.v 0) 32),(.aT (.v 0) 33)])]))] []),(.ite (.h (.v 0) (.cls 16)) [(.ret (.U [(.lit (.str [114,101,97,108])),(.U [(.aT (.v 0) 30),(.aT (.v 0) 31)])]))] []),(.ite (.h (.v 0) (.cls 1)) [(.ret (.U [(.ife (.j .is (.meth (.v 1) 4 [(.aT (.v 0) 13)]) (.v 0)) (.lit (.str [115,121,109,98,111,108])) (.lit (.str [115,116,114,97,110,103,101]))),(.aT (.v 0) 13)]))] []),(.ite (.h (.v 0) (.cls 4)) [(.ret (.U [(.lit (.str [99,104,97,114])),(.aT (.v 0) 18)]))] []),(.ite (.h (.v 0) (.cls 5)) [(.ret (.U [(.lit (.str [115,116,114,105,110,103])),(.bi .tuple [(.aT (.v 0) 19)])]))] []),(.ite (.h (.v 0) (.cls 6)) [(.ret (.U [(.lit (.str [118,101,99,116,111,114])),(.bi .tuple [(.comp (.call 125 [(.v 3),(.v 1)]) (.one 3) (.aT (.v 0) 20) false none)])]))] []),(.ite (.not (.h (.v 0) (.cls 3))) [(.ret (.U [(.lit (.str [111,116,104,101,114])),(.lit (.int 0))]))] []),(.aS (.v 2) (.list [])),(.while (.h (.v 0) (.cls 3)) [(.expr (.meth (.v 2) 0 [(.call 125 [(.aT (.v 0) 16),(.v 1)])])),(.aS (.v 0) (.aT (.v 0) 17))]),(.ret (.U [(.lit (.str [99,104,97,105,110])),(.U [(.bi .tuple [(.v 2)]),(.call 125 [(.v 0),(.v 1)])])]))]⟩
abbrev OH:Fn:=⟨1,[],3,[(.ret (.o .add (.lit (.str [35,92])) (.dget [(32,[115,112,97,99,101]),(10,[110,101,119,108,105,110,101])] (.v 0) (.bi .chr [(.v 0)]))))]⟩
abbrev Ff:Fn:=⟨2,[],16,[(.aS (.v 2) (.call 122 [(.v 0),(.lit (.int 8))])),(.ite (.j .eq (.v 2) (.lit (.int 0))) [(.aS (.v 3) (.j .eq (.call 122 [(.v 0),(.lit (.int 2))]) (.lit (.int 1)))),(.ret (.list [(.v 3),(.ife (.v 3) (.lit (.str [35,116])) (.lit (.str [35,102]))),(.ife (.v 3) (.lit (.str [35,116])) (.lit (.str [35,102])))]))] []),(.ite (.j .eq (.v 2) (.lit (.int 1))) [(.aS (.v 4) (.o .sub (.call 122 [(.v 0),(.lit (.int 2000))]) (.lit (.int 1000)))),(.ret (.list [(.v 4),(.bi .str [(.v 4)]),(.bi .str [(.v 4)])]))] []),(.ite (.j .eq (.v 2) (.lit (.int 2))) [(.aS (.v 5) (.o .add (.lit (.int 2)) (.call 122 [(.v 0),(.lit (.int 8))]))),(.aS (.v 6) (.o .add (.o .mul (.v 5) (.o .sub (.call 122 [(.v 0),(.lit (.int 20))]) (.lit (.int 10)))) (.lit (.int 1)))),(.ret (.list [(.new 17 [(.v 6),(.v 5)]),(.o .add (.o .add (.bi .str [(.v 6)]) (.lit (.str [47]))) (.bi .str [(.v 5)])),(.o .add (.o .add (.bi .str [(.v 6)]) (.lit (.str [47]))) (.bi .str [(.v 5)]))]))] []),(.ite (.j .eq (.v 2) (.lit (.int 3))) [(.aS (.U [(.v 7),(.v 8),(.v 9)]) (.call 123 [(.v 0),(.lit (.a [(.U [(.int 1),(.int (-1)),(.str [48,46,53])]),(.U [(.int 3),(.int (-1)),(.str [49,46,53])]),(.U [(.int (-5)),(.int (-2)),(.str [45,49,46,50,53])]),(.U [(.int 0),(.int 0),(.str [48,46,48])]),(.U [(.int 25),(.int 2),(.str [49,48,48,46,48])]),(.U [(.int 1),(.int (-4)),(.str [48,46,48,54,50,53])])]))])),(.ret (.list [(.new 16 [(.v 7),(.v 8)]),(.v 9),(.v 9)]))] []),(.ite (.j .eq (.v 2) (.lit (.int 4))) [(.aS (.v 10) (.call 123 [(.v 0),(.lit (.a [(.str [97]),(.str [98,50]),(.str [108,105,115,116,45,62,118,101,99,116,111,114]),(.str [43]),(.str [45]),(.str [46,46,46]),(.str [33,120]),(.str [97,46,98]),(.str [60,61,63]),(.str [113,64]),(.str [113,117,111,116,101]),(.str [101,53]),(.str [120,45,49,43]),(.str [117,110,113,117,111,116,101])]))])),(.ret (.list [(.meth (.v 1) 75 [(.v 10)]),(.v 10),(.v 10)]))] []),(.ite (.j .eq (.v 2) (.lit (.int 5))) [(.aS (.v 11) (.call 123 [(.v 0),(.o .add (.bi .list [(.bi .range [(.lit (.int 33)),(.lit (.int 95))])]) (.lit (.a [(.int 34),(.int 92),(.int 10),(.int 32),(.int 40),(.int 41),(.int 59),(.int 39),(.int 35),(.int 97),(.int 65),(.int 9),(.int 955),(.int 124)])))])),(.ret (.list [(.new 4 [(.v 11)]),(.call 126 [(.v 11)]),(.bi .chr [(.v 11)])]))] []),(.ite (.j .eq (.v 2) (.lit (.int 6))) [(.aS (.v 12) (.comp (.call 123 [(.v 0),(.lit (.a [(.int 34),(.int 92),(.int 10),(.int 32),(.int 40),(.int 41),(.int 59),(.int 39),(.int 35),(.int 97),(.int 65),(.int 9),(.int 955),(.int 124)]))]) (.one 14) (.bi .range [(.call 122 [(.v 0),(.lit (.int 5))])]) false none)),(.aS (.v 13) (.meth (.lit (.str [])) 6 [(.comp (.bi .chr [(.v 14)]) (.one 14) (.v 12) false none)])),(.ret (.list [(.new 5 [(.v 12)]),(.o .add (.esc [34] (.v 13) 92 [92,92] 34 [92,34]) (.lit (.str [34]))),(.v 13)]))] []),(.ret (.list [(.lit (.obj 0)),(.lit (.str [40,41])),(.lit (.str [40,41]))]))]⟩
abbrev OG:Fn:=⟨2,[],6,[(.aS (.v 2) (.list [(.new 3 [(.idx (.v 0) (.lit (.int 0))),(.idx (.v 1) (.lit (.int 0)))])])),(.for (.one 3) (.U [(.lit (.int 1)),(.lit (.int 2))]) [(.ite (.j .is (.idx (.v 1) (.lit (.int 0))) (.lit (.obj 0))) [(.expr (.meth (.v 2) 0 [(.o .add (.o .add (.lit (.str [40])) (.idx (.v 0) (.v 3))) (.lit (.str [41])))]))] [(.ite (.h (.idx (.v 1) (.lit (.int 0))) (.cls 3)) [(.expr (.meth (.v 2) 0 [(.o .add (.o .add (.o .add (.lit (.str [40])) (.idx (.v 0) (.v 3))) (.lit (.str [32]))) (.slice (.idx (.v 1) (.v 3)) (some (.lit (.int 1))) none))]))] [(.expr (.meth (.v 2) 0 [(.o .add (.o .add (.o .add (.o .add (.lit (.str [40])) (.idx (.v 0) (.v 3))) (.lit (.str [32,46,32]))) (.idx (.v 1) (.v 3))) (.lit (.str [41])))]))])])]),(.ret (.v 2))]⟩
abbrev CP:Fn:=⟨3,[],8,[(.aS (.v 3) (.call 122 [(.v 0),(.lit (.int 6))])),(.aS (.U [(.v 4),(.v 5)]) (.U [(.call 123 [(.v 0),(.v 1)]),(.call 123 [(.v 0),(.v 1)])])),(.ite (.or (.j .eq (.v 3) (.lit (.int 0))) (.j .gt (.o .add (.bi .len [(.idx (.v 4) (.lit (.int 1)))]) (.bi .len [(.idx (.v 5) (.lit (.int 1)))])) (.lit (.int 44)))) [(.ret (.call 127 [(.v 0),(.v 2)]))] []),(.ite (.j .eq (.v 3) (.lit (.int 1))) [(.ret (.list [(.new 6 [(.list [(.idx (.v 4) (.lit (.int 0))),(.idx (.v 5) (.lit (.int 0)))])]),(.o .add (.o .add (.o .add (.o .add (.lit (.str [35,40])) (.idx (.v 4) (.lit (.int 1)))) (.lit (.str [32]))) (.idx (.v 5) (.lit (.int 1)))) (.lit (.str [41]))),(.o .add (.o .add (.o .add (.o .add (.lit (.str [35,40])) (.idx (.v 4) (.lit (.int 2)))) (.lit (.str [32]))) (.idx (.v 5) (.lit (.int 2)))) (.lit (.str [41])))]))] []),(.ite (.j .eq (.v 3) (.lit (.int 2))) [(.ret (.call 128 [(.v 4),(.call 128 [(.v 5),(.list [(.lit (.obj 0)),(.lit (.str [40,41])),(.lit (.str [40,41]))])])]))] []),(.ret (.call 128 [(.v 4),(.v 5)]))]⟩
abbrev Fe:Fn:=⟨1,[],14,[(.aS (.U [(.v 1),(.v 2)]) (.U [(.call 124 [(.v 0),(.lit (.int 30))]),(.new 2 [])])),(.aS (.v 3) (.list [(.call 127 [(.v 1),(.v 2)]),(.call 127 [(.v 1),(.v 2)]),(.list [(.lit (.obj 0)),(.lit (.str [40,41])),(.lit (.str [40,41]))])])),(.for (.one 4) (.bi .range [(.o .add (.lit (.int 2)) (.o .fdiv (.bi .min [(.bi .len [(.v 0)]),(.lit (.int 20))]) (.lit (.int 4))))]) [(.expr (.meth (.v 3) 0 [(.call 129 [(.v 1),(.v 3),(.v 2)])]))]),(.for (.many [5,6,7]) (.list [(.idx (.v 3) (.lit (.int 0))),(.idx (.v 3) (.neg (.lit (.int 1))))]) [(.ite (.or (.j .ne (.call 120 [(.v 5)]) (.v 6)) (.j .ne (.call 121 [(.v 5)]) (.v 7))) [(.ret (.lit (.bool false)))] []),(.aS (.v 8) (.new 2 [])),(.aS (.v 9) (.call 108 [(.v 6),(.v 8)])),(.ite (.or (.j .ne (.call 125 [(.v 9),(.v 8)]) (.call 125 [(.v 5),(.v 2)])) (.j .ne (.call 120 [(.v 9)]) (.v 6))) [(.ret (.lit (.bool false)))] [])]),(.aS (.v 10) (.comp (.call 123 [(.v 1),(.v 3)]) (.one 12) (.bi .range [(.o .add (.lit (.int 1)) (.o .fdiv (.bi .min [(.bi .len [(.v 0)]),(.lit (.int 16))]) (.lit (.int 8))))]) false none)),(.aS (.v 11) (.comp (.o .add (.idx (.v 12) (.lit (.int 1))) (.call 123 [(.v 1),(.list [(.lit (.str [32])),(.lit (.str [10])),(.lit (.str [32,59,120,10])),(.lit (.str [9]))])])) (.one 12) (.v 10) false none)),(.aS (.v 8) (.new 2 [])),(.aS (.v 9) (.call 107 [(.o .add (.o .add (.lit (.str [32])) (.meth (.lit (.str [])) 6 [(.v 11)])) (.lit (.str [59,41]))),(.v 8)])),(.ret (.j .eq (.comp (.call 125 [(.v 12),(.v 8)]) (.one 12) (.v 9) false none) (.comp (.call 125 [(.idx (.v 12) (.lit (.int 0))),(.v 2)]) (.one 12) (.v 10) false none)))]⟩
abbrev H8:List Fn:= [f0,f1,f2,f3,f4,f5,⟨0,[],0,[.fail]⟩,f7,⟨0,[],0,[.fail]⟩,⟨0,[],0,[.fail]⟩,SX,SW,SV,SU,⟨0,[],0,[.fail]⟩,⟨0,[],0,[.fail]⟩,⟨0,[],0,[.fail]⟩,⟨0,[],0,[.fail]⟩,SS,SR,SQ,SP,⟨0,[],0,[.fail]⟩,⟨0,[],0,[.fail]⟩,⟨0,[],0,[.fail]⟩,⟨0,[],0,[.fail]⟩,⟨0,[],0,[.fail]⟩,SO,SN,⟨1,[],3,[(.ret (.meth (.bi .abs [(.v 0)]) 3 []))]⟩,SM,⟨1,[],3,[(.ret (.o .sub (.meth (.o .band (.v 0) (.o .sub (.lit (.int 0)) (.v 0))) 3 []) (.lit (.int 1))))]⟩,⟨2,[],6,[(.ite (.j .eq (.v 0) (.lit (.int 0))) [(.ret (.new 16 [(.lit (.int 0)),(.lit (.int 0))]))] []),(.aS (.U [(.v 2),(.v 3)]) (.U [(.call 31 [(.v 0)]),(.o .add (.call 29 [(.v 0)]) (.v 1))])),(.ite (.j .gt (.bi .abs [(.v 3)]) (.lit (.int 65536))) [.fail] []),(.ret (.new 16 [(.o .shr (.v 0) (.v 2)),(.o .add (.v 1) (.v 2))]))]⟩,⟨2,[],7,[(.aS (.U [(.v 2),(.v 3),(.v 4)]) (.U [(.o .shr (.v 0) (.v 1)),(.o .band (.v 0) (.o .sub (.o .shl (.lit (.int 1)) (.v 1)) (.lit (.int 1)))),(.o .shl (.lit (.int 1)) (.o .sub (.v 1) (.lit (.int 1))))])),(.ite (.or (.j .gt (.v 3) (.v 4)) (.and (.j .eq (.v 3) (.v 4)) (.j .eq (.o .band (.v 2) (.lit (.int 1))) (.lit (.int 1))))) [(.ret (.o .add (.v 2) (.lit (.int 1))))] []),(.ret (.v 2))]⟩,⟨3,[],6,[(.aS (.v 3) (.o .sub (.call 29 [(.v 1)]) (.v 0))),(.ite (.j .le (.v 3) (.lit (.int 0))) [(.ret (.call 32 [(.v 1),(.v 2)]))] []),(.ret (.call 32 [(.o .mul (.call 30 [(.v 1)]) (.call 33 [(.bi .abs [(.v 1)]),(.v 3)])),(.o .add (.v 2) (.v 3))]))]⟩,⟨2,[],4,[(.ret (.o .add (.o .mul (.lit (.int 2)) (.v 0)) (.ife (.v 1) (.lit (.int 1)) (.lit (.int 0)))))]⟩,⟨3,[],8,[(.ite (.j .eq (.v 1) (.lit (.int 0))) [(.ret (.new 16 [(.lit (.int 0)),(.lit (.int 0))]))] []),(.aS (.v 3) (.o .sub (.o .add (.o .add (.v 0) (.lit (.int 2))) (.call 29 [(.v 2)])) (.call 29 [(.v 1)]))),(.ite (.j .ge (.v 3) (.lit (.int 0))) [(.aS (.U [(.v 4),(.v 5)]) (.bi .divmod [(.o .shl (.bi .abs [(.v 1)]) (.v 3)),(.v 2)]))] [(.aS (.U [(.v 4),(.v 5)]) (.bi .divmod [(.bi .abs [(.v 1)]),(.o .shl (.v 2) (.o .sub (.lit (.int 0)) (.v 3)))]))]),(.ret (.call 34 [(.v 0),(.o .mul (.call 30 [(.v 1)]) (.call 35 [(.v 4),(.j .ne (.v 5) (.lit (.int 0)))])),(.o .sub (.o .sub (.lit (.int 0)) (.v 3)) (.lit (.int 1)))]))]⟩,⟨0,[],0,[.fail]⟩,⟨1,[],3,[(.ret (.o .add (.call 29 [(.aT (.v 0) 30)]) (.aT (.v 0) 31)))]⟩,SL,SK,⟨2,[],5,[(.aS (.v 2) (.o .sub (.v 0) (.call 29 [(.aT (.v 1) 30)]))),(.ret (.U [(.o .shl (.bi .abs [(.aT (.v 1) 30)]) (.v 2)),(.o .sub (.aT (.v 1) 31) (.v 2))]))]⟩,SJ,SI,Q7,Q6,Q5,SH,Q4,⟨3,[],8,[(.aS (.U [(.v 3),(.v 4)]) (.call 41 [(.v 1),(.v 2)])),(.aS (.v 5) (.j .eq (.v 3) (.o .shl (.lit (.int 1)) (.o .sub (.v 1) (.lit (.int 1)))))),(.aS (.aT (.v 0) 34) (.o .mul (.lit (.int 4)) (.v 3))),(.aS (.aT (.v 0) 35) (.o .sub (.aT (.v 0) 34) (.ife (.v 5) (.lit (.int 1)) (.lit (.int 2))))),(.aS (.aT (.v 0) 36) (.o .add (.aT (.v 0) 34) (.lit (.int 2)))),(.aS (.aT (.v 0) 37) (.j .eq (.o .mod (.v 3) (.lit (.int 2))) (.lit (.int 0)))),(.aS (.U [(.aT (.v 0) 32),(.aT (.v 0) 33)]) (.ife (.j .ge (.v 4) (.lit (.int 2))) (.U [(.o .shl (.lit (.int 1)) (.o .sub (.v 4) (.lit (.int 2)))),(.lit (.int 1))]) (.U [(.lit (.int 1)),(.o .shl (.lit (.int 1)) (.o .sub (.lit (.int 2)) (.v 4)))])))]⟩,⟨3,[],5,[(.ite (.j .ge (.v 2) (.lit (.int 0))) [(.ret (.U [(.o .mul (.v 1) (.aT (.v 0) 32)),(.o .mul (.aT (.v 0) 33) (.o .pow (.lit (.int 10)) (.v 2)))]))] []),(.ret (.U [(.o .mul (.o .mul (.v 1) (.aT (.v 0) 32)) (.o .pow (.lit (.int 10)) (.o .sub (.lit (.int 0)) (.v 2)))),(.aT (.v 0) 33)]))]⟩,⟨2,[],8,[(.aS (.U [(.v 2),(.v 3)]) (.meth (.v 0) 57 [(.aT (.v 0) 35),(.v 1)])),(.aS (.U [(.v 4),(.v 5)]) (.bi .divmod [(.v 2),(.v 3)])),(.ret (.ife (.and (.j .eq (.v 5) (.lit (.int 0))) (.aT (.v 0) 37)) (.v 4) (.o .add (.v 4) (.lit (.int 1)))))]⟩,⟨2,[],8,[(.aS (.U [(.v 2),(.v 3)]) (.meth (.v 0) 57 [(.aT (.v 0) 36),(.v 1)])),(.aS (.U [(.v 4),(.v 5)]) (.bi .divmod [(.v 2),(.v 3)])),(.ret (.ife (.or (.j .gt (.v 5) (.lit (.int 0))) (.aT (.v 0) 37)) (.v 4) (.o .sub (.v 4) (.lit (.int 1)))))]⟩,⟨3,[],7,[(.aS (.U [(.v 3),(.v 4)]) (.meth (.v 0) 57 [(.aT (.v 0) 34),(.v 2)])),(.ret (.U [(.bi .abs [(.o .sub (.o .mul (.v 1) (.v 4)) (.v 3))]),(.v 4)]))]⟩,⟨2,[],8,[(.aS (.U [(.v 2),(.v 3)]) (.meth (.v 0) 57 [(.aT (.v 0) 34),(.v 1)])),(.aS (.U [(.v 4),(.v 5)]) (.bi .divmod [(.v 2),(.v 3)])),(.ite (.or (.j .gt (.o .mul (.lit (.int 2)) (.v 5)) (.v 3)) (.and (.j .eq (.o .mul (.lit (.int 2)) (.v 5)) (.v 3)) (.j .eq (.o .mod (.v 4) (.lit (.int 2))) (.lit (.int 1))))) [(.ret (.o .add (.v 4) (.lit (.int 1))))] []),(.ret (.v 4))]⟩,⟨3,[],12,[(.aS (.U [(.v 3),(.v 4)]) (.U [(.meth (.v 0) 58 [(.o .sub (.v 2) (.lit (.int 1)))]),(.bi .min [(.meth (.v 0) 60 [(.o .sub (.v 2) (.lit (.int 1)))]),(.lit (.int 9))])])),(.ite (.j .lt (.v 4) (.v 3)) [(.ret (.U [(.v 1),(.v 2)]))] []),(.aS (.v 5) (.bi .min [(.bi .max [(.meth (.v 0) 66 [(.o .sub (.v 2) (.lit (.int 1)))]),(.v 3)]),(.v 4)])),(.aS (.U [(.v 6),(.v 7)]) (.U [(.meth (.v 0) 59 [(.v 1),(.v 2)]),(.meth (.v 0) 59 [(.v 5),(.o .sub (.v 2) (.lit (.int 1)))])])),(.aS (.U [(.v 8),(.v 9)]) (.U [(.o .mul (.o .mul (.lit (.int 10)) (.idx (.v 6) (.lit (.int 0)))) (.idx (.v 7) (.lit (.int 1)))),(.o .mul (.idx (.v 7) (.lit (.int 0))) (.idx (.v 6) (.lit (.int 1))))])),(.ite (.or (.j .lt (.v 9) (.v 8)) (.and (.j .eq (.v 9) (.v 8)) (.and (.j .eq (.o .mod (.v 1) (.lit (.int 2))) (.lit (.int 1))) (.j .eq (.o .mod (.v 5) (.lit (.int 2))) (.lit (.int 0)))))) [(.ret (.U [(.v 5),(.o .sub (.v 2) (.lit (.int 1)))]))] []),(.ret (.U [(.v 1),(.v 2)]))]⟩,⟨1,[],4,[(.aS (.v 1) (.o .add (.call 38 [(.v 0)]) (.lit (.int 1)))),(.ret (.o .add (.o .fdiv (.o .mul (.v 1) (.lit (.int 30103))) (.lit (.int 100000))) (.lit (.int 2))))]⟩,⟨2,[],9,[(.aS (.U [(.v 2),(.v 3)]) (.U [(.new 18 [(.v 0),(.v 1)]),(.call 56 [(.v 1)])])),(.aS (.U [(.v 4),(.v 5)]) (.U [(.meth (.v 2) 58 [(.v 3)]),(.meth (.v 2) 60 [(.v 3)])])),(.while (.j .lt (.v 5) (.bi .max [(.lit (.int 1)),(.v 4)])) [(.aS (.v 3) (.o .sub (.v 3) (.lit (.int 1)))),(.aS (.U [(.v 4),(.v 5)]) (.U [(.meth (.v 2) 58 [(.v 3)]),(.meth (.v 2) 60 [(.v 3)])]))]),(.aS (.v 6) (.bi .min [(.bi .max [(.meth (.v 2) 66 [(.v 3)]),(.v 4)]),(.v 5)])),(.ret (.ife (.j .eq (.v 4) (.lit (.int 1))) (.call 55 [(.v 2),(.v 6),(.v 3)]) (.U [(.v 6),(.v 3)])))]⟩,⟨2,[],5,[(.aS (.v 2) (.meth (.v 0) 9 [(.lit (.str [48]))])),(.ret (.U [(.v 2),(.o .sub (.o .add (.v 1) (.bi .len [(.v 0)])) (.bi .len [(.v 2)]))]))]⟩,⟨2,[],6,[(.aS (.v 2) (.o .add (.bi .len [(.v 0)]) (.v 1))),(.ite (.chain (.lit (.int 0)) .lt (.v 2) .le (.lit (.int 21))) [(.ite (.j .ge (.v 1) (.lit (.int 0))) [(.ret (.o .add (.o .add (.v 0) (.o .mul (.lit (.str [48])) (.v 1))) (.lit (.str [46,48]))))] []),(.ret (.o .add (.o .add (.slice (.v 0) none (some (.v 2))) (.lit (.str [46]))) (.slice (.v 0) (some (.v 2)) none)))] []),(.ite (.chain (.o .sub (.lit (.int 0)) (.lit (.int 6))) .le (.v 2) .le (.lit (.int 0))) [(.ret (.o .add (.o .add (.lit (.str [48,46])) (.o .mul (.lit (.str [48])) (.o .sub (.lit (.int 0)) (.v 2)))) (.v 0)))] []),(.aS (.v 3) (.ife (.j .gt (.bi .len [(.v 0)]) (.lit (.int 1))) (.o .add (.lit (.str [46])) (.slice (.v 0) (some (.lit (.int 1))) none)) (.lit (.str [])))),(.ret (.o .add (.o .add (.o .add (.idx (.v 0) (.lit (.int 0))) (.v 3)) (.lit (.str [101]))) (.call 47 [(.o .sub (.v 2) (.lit (.int 1))),(.lit (.int 10))])))]⟩,Q3,Q2,SG,SF,SE,SD,SA,Sz,⟨2,[],7,[(.aS (.U [(.v 2),(.v 3)]) (.call 64 [(.v 0)])),(.aS (.v 4) (.idx (.call 64 [(.v 1)]) (.lit (.int 0)))),(.ite (.or (.not (.call 63 [(.v 2),(.lit (.int 10))])) (.or (.not (.call 63 [(.v 4),(.lit (.int 10))])) (.j .eq (.o .add (.v 2) (.v 4)) (.lit (.str []))))) [(.ret (.lit (.bool false)))] []),(.ret (.or (.j .eq (.v 3) (.lit (.int 0))) (.and (.j .ne (.v 2) (.lit (.str []))) (.j .eq (.v 4) (.lit (.str []))))))]⟩,⟨1,[],4,[(.aS (.v 1) (.ife (.j .isin (.slice (.v 0) none (some (.lit (.int 1)))) (.U [(.lit (.str [43])),(.lit (.str [45]))])) (.slice (.v 0) (some (.lit (.int 1))) none) (.v 0))),(.ite (.or (.not (.chain (.lit (.int 1)) .le (.bi .len [(.v 1)]) .le (.lit (.int 5)))) (.not (.call 63 [(.v 1),(.lit (.int 10))]))) [(.ret (.lit .none))] []),(.ret (.o .mul (.ife (.j .eq (.slice (.v 0) none (some (.lit (.int 1)))) (.lit (.str [45]))) (.neg (.lit (.int 1))) (.lit (.int 1))) (.call 62 [(.v 1),(.lit (.int 10))])))]⟩,Sy,⟨1,[],6,[(.aS (.v 1) (.meth (.v 0) 10 [(.lit (.str [46]))])),(.ite (.j .eq (.bi .len [(.v 1)]) (.lit (.int 1))) [(.aS (.v 2) (.call 66 [(.v 0),(.lit (.int 10))])),(.ret (.ife (.j .is (.v 2) (.lit .none)) (.lit .none) (.new 19 [(.aT (.v 2) 32),(.lit (.int 1)),(.lit (.bool false))])))] []),(.ite (.or (.j .ne (.bi .len [(.v 1)]) (.lit (.int 2))) (.not (.call 68 [(.idx (.v 1) (.lit (.int 0))),(.idx (.v 1) (.lit (.int 1)))]))) [(.ret (.lit .none))] []),(.aS (.v 3) (.meth (.o .add (.idx (.v 1) (.lit (.int 0))) (.idx (.v 1) (.lit (.int 1)))) 8 [(.lit (.str [35])),(.lit (.str [48]))])),(.ret (.new 19 [(.call 62 [(.v 3),(.lit (.int 10))]),(.o .pow (.lit (.int 10)) (.bi .len [(.idx (.v 1) (.lit (.int 1)))])),(.lit (.bool false))]))]⟩,⟨1,[],6,[(.aS (.v 1) (.call 70 [(.v 0)])),(.aS (.v 2) (.call 71 [(.slice (.v 0) none (some (.v 1)))])),(.ite (.or (.j .is (.v 2) (.lit .none)) (.j .eq (.v 1) (.bi .len [(.v 0)]))) [(.ret (.v 2))] []),(.aS (.v 3) (.call 69 [(.slice (.v 0) (some (.o .add (.v 1) (.lit (.int 1)))) none)])),(.ite (.j .is (.v 3) (.lit .none)) [(.ret (.lit .none))] []),(.ite (.j .ge (.v 3) (.lit (.int 0))) [(.ret (.new 19 [(.o .mul (.aT (.v 2) 32) (.o .pow (.lit (.int 10)) (.v 3))),(.aT (.v 2) 33),(.lit (.bool false))]))] []),(.ret (.new 19 [(.aT (.v 2) 32),(.o .mul (.aT (.v 2) 33) (.o .pow (.lit (.int 10)) (.o .sub (.lit (.int 0)) (.v 3)))),(.lit (.bool false))]))]⟩,Q1,Sx,Sw,Sv,Su,Ss,Sr,⟨1,[],3,[(.ret (.or (.call 79 [(.v 0)]) (.or (.j .isin (.v 0) (.lit (.str [48,49,50,51,52,53,54,55,56,57]))) (.j .isin (.v 0) (.lit (.str [43,45,46,64]))))))]⟩,Sp,So,⟨1,[],5,[(.for (.many [1,2]) (.lit (.U [(.U [(.str [115,112,97,99,101]),(.str [32])]),(.U [(.str [110,101,119,108,105,110,101]),(.str [10])])])) [(.ite (.j .eq (.v 1) (.call 78 [(.v 0)])) [(.ret (.v 2))] [])]),(.ret (.lit .none))]⟩,PM,Sn,Q0,⟨1,[],3,[(.expr (.call 0 [(.lit (.int 4))]))]⟩,JL,Sm,Sl,MY,Sj,MX,Si,Sg,Sf,Se,Sd,QZ,OV,⟨2,[],5,[(.aS (.v 2) (.meth (.aT (.v 0) 48) 1 [])),(.ret (.call 20 [(.list [(.idx (.aT (.v 2) 20) (.lit (.int 0))),(.v 1)])]))]⟩,Io,OU,Fg,LS,CQ,OT,OS,⟨2,[],6,[(.ite (.or (.not (.h (.v 0) (.cls 3))) (.or (.not (.h (.aT (.v 0) 17) (.cls 3))) (.j .isnot (.aT (.aT (.v 0) 17) 17) (.lit (.obj 0))))) [(.ret (.lit .none))] []),(.for (.many [2,3]) (.lit (.U [(.U [(.str [39]),(.str [113,117,111,116,101])]),(.U [(.str [96]),(.str [113,117,97,115,105,113,117,111,116,101])]),(.U [(.str [44]),(.str [117,110,113,117,111,116,101])]),(.U [(.str [44,64]),(.str [117,110,113,117,111,116,101,45,115,112,108,105,99,105,110,103])])])) [(.ite (.j .is (.aT (.v 0) 16) (.meth (.v 1) 75 [(.v 3)])) [(.ret (.v 2))] [])]),(.ret (.lit .none))]⟩,Im,OR,OQ,OP,OO,ON,Il,OM,Ik,Ak,OL,OK,OJ,LR,OI,qV,OH,Ff,OG,CP,Fe]
abbrev Rc:List Cls:= [
 ⟨1,[],[11]⟩,
 ⟨2,[],[12,13]⟩,
 ⟨3,[(75,4),(81,5),(82,6),(4,7),(83,8),(84,9)],[14,15]⟩,
 ⟨10,[],[16,17]⟩,
 ⟨11,[],[18]⟩,
 ⟨12,[],[19]⟩,
 ⟨13,[],[20]⟩,
 ⟨14,[],[21]⟩,
 ⟨15,[],[22,21]⟩,
 ⟨16,[],[12]⟩,
 ⟨17,[],[11]⟩,
 ⟨22,[],[23,24]⟩,
 ⟨23,[],[25,26]⟩,
 ⟨24,[],[25,26]⟩,
 ⟨25,[],[27]⟩,
 ⟨26,[],[28,26,29]⟩,
 ⟨27,[],[30,31]⟩,
 ⟨42,[],[32,33]⟩,
 ⟨49,[(57,50),(58,51),(60,52),(59,53),(66,54)],[34,35,36,37,32,33]⟩,
 ⟨65,[],[32,33,38]⟩,
 ⟨77,[],[23,39,40,41]⟩,
 ⟨85,[(61,86),(85,87),(71,88),(64,89),(63,90),(62,91),(69,92),(68,93),(70,94),(67,95)],[13,42,26,43]⟩,
 ⟨96,[],[23,40,20,44,45]⟩,
 ⟨97,[(26,98),(49,99),(80,100),(74,101),(72,102),(77,103),(78,104),(79,105),(73,106)],[46,47,48]⟩,
 ⟨113,[(55,114),(65,115),(29,116),(76,117),(45,118),(79,119)],[50,42,51,27,47,52,53,54]⟩]
abbrev Ql:List Nat:= [0,0]
abbrev P:Pg:=⟨H8,Rc,Ql⟩
end
end Mine.Internal
end
section
open PySem PySem.Calls PyProof.Rows PySem.W
namespace Mine.Internal
mutual
abbrev Dh:List Str:= [aa "append",aa "pop",aa "get",aa "bit_length",aa "find",aa "index",aa "join",aa "lower",aa "replace",aa "rstrip",aa "split",aa "title",aa "number",aa "text",aa "rows",aa "by_text",aa "car",aa "cdr",aa "code",aa "codes",aa "things",aa "content",aa "is_done",aa "word",aa "irritants",aa "reason",aa "place",aa "limit",aa "name",aa "datum",aa "mantissa",aa "exponent",aa "top",aa "bottom",aa "here",aa "low",aa "high",aa "has_ends",aa "is_exact",aa "value",aa "start",aa "end",aa "precision",aa "is_folded",aa "state",aa "tail",aa "lexer",aa "table",aa "frames",aa "read",aa "is_written",aa "radix",aa "pieces",aa "length",aa "waiting",aa "told",aa "__init__",aa "over_power",aa "least_multiple",aa "gap",aa "greatest_multiple",aa "skip",aa "word_token",aa "word_end",aa "found",aa "put",aa "nearest_multiple",aa "string",aa "sharp",aa "number_in",aa "sign_token",aa "token",aa "opens",aa "delivered",aa "quoted",aa "symbol",aa "pair",aa "dot",aa "closed",aa "atom",aa "last",aa "fresh",aa "by_number",aa "is_interned",aa "size",aa "peek"]
abbrev yk:List (Str×Gv):= [
 (aa "_wall", .fn 0),
 (aa "make_text", .fn 18),
 (aa "python_text", .fn 19),
 (aa "list_of", .fn 20),
 (aa "is_boolean", .fn 21),
 (aa "is_real", .fn 28),
 (aa "size_of", .fn 29),
 (aa "sign_of_whole", .fn 30),
 (aa "zeros_below", .fn 31),
 (aa "lean", .fn 32),
 (aa "nearest_shift", .fn 33),
 (aa "shifted_round", .fn 34),
 (aa "with_sticky", .fn 35),
 (aa "rounded", .fn 36),
 (aa "exact_parts", .fn 37),
 (aa "place_of", .fn 38),
 (aa "sign_of", .fn 39),
 (aa "magnitude", .fn 40),
 (aa "full_mantissa", .fn 41),
 (aa "gcd_of", .fn 43),
 (aa "made", .fn 44),
 (aa "ratio_of", .fn 45),
 (aa "figures_of", .fn 46),
 (aa "whole_text", .fn 47),
 (aa "exact_text", .fn 48),
 (aa "with_lower_ones", .fn 55),
 (aa "tens_above", .fn 56),
 (aa "shortest_figures", .fn 57),
 (aa "without_noughts", .fn 58),
 (aa "laid_out", .fn 59),
 (aa "decimal_text", .fn 60),
 (aa "number_text", .fn 61),
 (aa "worth_of", .fn 62),
 (aa "are_figures", .fn 63),
 (aa "parted", .fn 64),
 (aa "read_whole", .fn 66),
 (aa "read_ratio", .fn 67),
 (aa "are_decimal_parts", .fn 68),
 (aa "read_exponent", .fn 69),
 (aa "mark_place", .fn 70),
 (aa "read_mantissa", .fn 71),
 (aa "read_decimal", .fn 72),
 (aa "read_unsigned", .fn 73),
 (aa "split_prefixes", .fn 74),
 (aa "finished", .fn 75),
 (aa "parse_number", .fn 76),
 (aa "folded", .fn 78),
 (aa "is_first", .fn 79),
 (aa "is_later", .fn 80),
 (aa "is_identifier", .fn 81),
 (aa "is_numberlike", .fn 82),
 (aa "sign_named", .fn 83),
 (aa "name_of_sign", .fn 84),
 (aa "read_all", .fn 107),
 (aa "read_one", .fn 108),
 (aa "quotation_sign", .fn 109),
 (aa "written_sign", .fn 110),
 (aa "written_string", .fn 111),
 (aa "other_text", .fn 112),
 (aa "write_text", .fn 120),
 (aa "display_text", .fn 121),
 (aa "_law_draw", .fn 122),
 (aa "_law_pick", .fn 123),
 (aa "_law_deck", .fn 124),
 (aa "_law_shape", .fn 125),
 (aa "_law_sign_text", .fn 126),
 (aa "_law_atom", .fn 127),
 (aa "_law_pair", .fn 128),
 (aa "_law_next", .fn 129),
 (aa "law", .fn 130),
 (aa "Special", .cls 0),
 (aa "Symbol", .cls 1),
 (aa "SymbolTable", .cls 2),
 (aa "Pair", .cls 3),
 (aa "Char", .cls 4),
 (aa "Text", .cls 5),
 (aa "Vector", .cls 6),
 (aa "Box", .cls 7),
 (aa "Promise", .cls 8),
 (aa "PortRef", .cls 9),
 (aa "Procedure", .cls 10),
 (aa "Real", .cls 16),
 (aa "Ratio", .cls 17),
 (aa "Surroundings", .cls 18),
 (aa "Reading", .cls 19),
 (aa "Token", .cls 20),
 (aa "Lexer", .cls 21),
 (aa "Frame", .cls 22),
 (aa "Reader", .cls 23),
 (aa "Printer", .cls 24),
 (aa "EMPTY", .val (.obj 0)),
 (aa "EOF", .val (.obj 1)),
 (aa "REACH", .val (.int 65536)),
 (aa "FIGURES_numtext", .val (.str [48,49,50,51,52,53,54,55,56,57,97,98,99,100,101,102])),
 (aa "MARKS", .val (.str [101,115,102,100,108])),
 (aa "MOST_EXPONENT_FIGURES", .val (.int 5)),
 (aa "MOST_BEFORE_POINT", .val (.int 21)),
 (aa "MOST_NOUGHTS_BEHIND_POINT", .val (.int 6)),
 (aa "BLANKS", .val (.str [32,10,9,13,12])),
 (aa "DELIMITERS", .val (.str [32,10,9,13,12,40,41,34,59])),
 (aa "RESERVED", .val (.str [91,93,123,125,124])),
 (aa "SMALL", .val (.str [97,98,99,100,101,102,103,104,105,106,107,108,109,110,111,112,113,114,115,116,117,118,119,120,121,122])),
 (aa "CAPITALS", .val (.str [65,66,67,68,69,70,71,72,73,74,75,76,77,78,79,80,81,82,83,84,85,86,87,88,89,90])),
 (aa "FIGURES_lexer", .val (.str [48,49,50,51,52,53,54,55,56,57])),
 (aa "FIRST_SIGNS", .val (.str [33,36,37,38,42,47,58,60,61,62,63,94,95,126])),
 (aa "LATER_SIGNS", .val (.str [43,45,46,64])),
 (aa "PECULIAR", .val (.U [(.str [43]),(.str [45]),(.str [46,46,46])])),
 (aa "PREFIXES", .val (.str [98,111,100,120,101,105])),
 (aa "SIGN_NAMES", .val (.U [(.U [(.str [115,112,97,99,101]),(.str [32])]),(.U [(.str [110,101,119,108,105,110,101]),(.str [10])])])),
 (aa "QUOTATIONS", .val (.U [(.U [(.str [39]),(.str [113,117,111,116,101])]),(.U [(.str [96]),(.str [113,117,97,115,105,113,117,111,116,101])]),(.U [(.str [44]),(.str [117,110,113,117,111,116,101])]),(.U [(.str [44,64]),(.str [117,110,113,117,111,116,101,45,115,112,108,105,99,105,110,103])])])),
 (aa "NOT_DOTTED", .val (.int 0)),
 (aa "BEHIND_DOT", .val (.int 1)),
 (aa "HAS_TAIL", .val (.int 2)),
 (aa "PIECE", .val (.int 0)),
 (aa "DATUM", .val (.int 1)),
 (aa "TAIL", .val (.int 2)),
 (aa "_law_reals", .val (.a [(.U [(.int 1),(.int (-1)),(.str [48,46,53])]),(.U [(.int 3),(.int (-1)),(.str [49,46,53])]),(.U [(.int (-5)),(.int (-2)),(.str [45,49,46,50,53])]),(.U [(.int 0),(.int 0),(.str [48,46,48])]),(.U [(.int 25),(.int 2),(.str [49,48,48,46,48])]),(.U [(.int 1),(.int (-4)),(.str [48,46,48,54,50,53])])])),
 (aa "_law_names", .val (.a [(.str [97]),(.str [98,50]),(.str [108,105,115,116,45,62,118,101,99,116,111,114]),(.str [43]),(.str [45]),(.str [46,46,46]),(.str [33,120]),(.str [97,46,98]),(.str [60,61,63]),(.str [113,64]),(.str [113,117,111,116,101]),(.str [101,53]),(.str [120,45,49,43]),(.str [117,110,113,117,111,116,101])])),
 (aa "_law_codes", .val (.a [(.int 34),(.int 92),(.int 10),(.int 32),(.int 40),(.int 41),(.int 59),(.int 39),(.int 35),(.int 97),(.int 65),(.int 9),(.int 955),(.int 124)])),
 (aa "abs", .bi .abs),
 (aa "chr", .bi .chr),
 (aa "ord", .bi .ord),
 (aa "len", .bi .len),
 (aa "divmod", .bi .divmod),
 (aa "max", .bi .max),
 (aa "min", .bi .min),
 (aa "range", .bi .range),
 (aa "all", .bi .all),
 (aa "list", .bi .list),
 (aa "str", .bi .str),
 (aa "tuple", .bi .tuple),
 (aa "reversed", .rev),
 (aa "enumerate", .enum),
 (aa "isinstance", .isinst),
 (aa "bool", .ty .bool),
 (aa "int", .bi .int)]
abbrev TJ:List (Option Str×Str):= [
 (none,aa "_wall"),
 (some (aa "Special"),aa "__init__"),
 (some (aa "Symbol"),aa "__init__"),
 (some (aa "SymbolTable"),aa "__init__"),
 (some (aa "SymbolTable"),aa "symbol"),
 (some (aa "SymbolTable"),aa "fresh"),
 (some (aa "SymbolTable"),aa "by_number"),
 (some (aa "SymbolTable"),aa "find"),
 (some (aa "SymbolTable"),aa "is_interned"),
 (some (aa "SymbolTable"),aa "size"),
 (some (aa "Pair"),aa "__init__"),
 (some (aa "Char"),aa "__init__"),
 (some (aa "Text"),aa "__init__"),
 (some (aa "Vector"),aa "__init__"),
 (some (aa "Box"),aa "__init__"),
 (some (aa "Promise"),aa "__init__"),
 (some (aa "PortRef"),aa "__init__"),
 (some (aa "Procedure"),aa "__init__"),
 (none,aa "make_text"),
 (none,aa "python_text"),
 (none,aa "list_of"),
 (none,aa "is_boolean"),
 (some (aa "SchemeError"),aa "__init__"),
 (some (aa "LexError"),aa "__init__"),
 (some (aa "ReadError"),aa "__init__"),
 (some (aa "TooLong"),aa "__init__"),
 (some (aa "OutOfRange"),aa "__init__"),
 (some (aa "Real"),aa "__init__"),
 (none,aa "is_real"),
 (none,aa "size_of"),
 (none,aa "sign_of_whole"),
 (none,aa "zeros_below"),
 (none,aa "lean"),
 (none,aa "nearest_shift"),
 (none,aa "shifted_round"),
 (none,aa "with_sticky"),
 (none,aa "rounded"),
 (none,aa "exact_parts"),
 (none,aa "place_of"),
 (none,aa "sign_of"),
 (none,aa "magnitude"),
 (none,aa "full_mantissa"),
 (some (aa "Ratio"),aa "__init__"),
 (none,aa "gcd_of"),
 (none,aa "made"),
 (none,aa "ratio_of"),
 (none,aa "figures_of"),
 (none,aa "whole_text"),
 (none,aa "exact_text"),
 (some (aa "Surroundings"),aa "__init__"),
 (some (aa "Surroundings"),aa "over_power"),
 (some (aa "Surroundings"),aa "least_multiple"),
 (some (aa "Surroundings"),aa "greatest_multiple"),
 (some (aa "Surroundings"),aa "gap"),
 (some (aa "Surroundings"),aa "nearest_multiple"),
 (none,aa "with_lower_ones"),
 (none,aa "tens_above"),
 (none,aa "shortest_figures"),
 (none,aa "without_noughts"),
 (none,aa "laid_out"),
 (none,aa "decimal_text"),
 (none,aa "number_text"),
 (none,aa "worth_of"),
 (none,aa "are_figures"),
 (none,aa "parted"),
 (some (aa "Reading"),aa "__init__"),
 (none,aa "read_whole"),
 (none,aa "read_ratio"),
 (none,aa "are_decimal_parts"),
 (none,aa "read_exponent"),
 (none,aa "mark_place"),
 (none,aa "read_mantissa"),
 (none,aa "read_decimal"),
 (none,aa "read_unsigned"),
 (none,aa "split_prefixes"),
 (none,aa "finished"),
 (none,aa "parse_number"),
 (some (aa "Token"),aa "__init__"),
 (none,aa "folded"),
 (none,aa "is_first"),
 (none,aa "is_later"),
 (none,aa "is_identifier"),
 (none,aa "is_numberlike"),
 (none,aa "sign_named"),
 (none,aa "name_of_sign"),
 (some (aa "Lexer"),aa "__init__"),
 (some (aa "Lexer"),aa "skip"),
 (some (aa "Lexer"),aa "peek"),
 (some (aa "Lexer"),aa "token"),
 (some (aa "Lexer"),aa "found"),
 (some (aa "Lexer"),aa "word_end"),
 (some (aa "Lexer"),aa "word_token"),
 (some (aa "Lexer"),aa "number_in"),
 (some (aa "Lexer"),aa "sharp"),
 (some (aa "Lexer"),aa "sign_token"),
 (some (aa "Lexer"),aa "string"),
 (some (aa "Frame"),aa "__init__"),
 (some (aa "Reader"),aa "__init__"),
 (some (aa "Reader"),aa "place"),
 (some (aa "Reader"),aa "read"),
 (some (aa "Reader"),aa "last"),
 (some (aa "Reader"),aa "quoted"),
 (some (aa "Reader"),aa "opens"),
 (some (aa "Reader"),aa "dot"),
 (some (aa "Reader"),aa "closed"),
 (some (aa "Reader"),aa "atom"),
 (some (aa "Reader"),aa "delivered"),
 (none,aa "read_all"),
 (none,aa "read_one"),
 (none,aa "quotation_sign"),
 (none,aa "written_sign"),
 (none,aa "written_string"),
 (none,aa "other_text"),
 (some (aa "Printer"),aa "__init__"),
 (some (aa "Printer"),aa "told"),
 (some (aa "Printer"),aa "put"),
 (some (aa "Printer"),aa "datum"),
 (some (aa "Printer"),aa "pair"),
 (some (aa "Printer"),aa "tail"),
 (some (aa "Printer"),aa "atom"),
 (none,aa "write_text"),
 (none,aa "display_text"),
 (none,aa "_law_draw"),
 (none,aa "_law_pick"),
 (none,aa "_law_deck"),
 (none,aa "_law_shape"),
 (none,aa "_law_sign_text"),
 (none,aa "_law_atom"),
 (none,aa "_law_pair"),
 (none,aa "_law_next"),
 (none,aa "law")]
abbrev TN:List Str:= [aa "Special",aa "Symbol",aa "SymbolTable",aa "Pair",aa "Char",aa "Text",aa "Vector",aa "Box",aa "Promise",aa "PortRef",aa "Procedure",aa "SchemeError",aa "LexError",aa "ReadError",aa "TooLong",aa "OutOfRange",aa "Real",aa "Ratio",aa "Surroundings",aa "Reading",aa "Token",aa "Lexer",aa "Frame",aa "Reader",aa "Printer"]
abbrev pB:List Nat:= [0,5,6,8,9,14,15,16,17,22,23,24,25,26,37]
abbrev lD:Option (Option Value)->Addr
 | some (some (.ref a))=>a
 | _=>0
abbrev CM(K:Frag):List Addr:=TJ.map fun(c,n)=>match c with
 | none=>lD (nsIn K mainGlobals n)
 | some c=>lD (findIn K (.ref (lD (nsIn K mainGlobals c))) n)
abbrev yH(K:Frag):List Addr:=TN.map λn=>lD (nsIn K mainGlobals n)
abbrev Cq(K:Frag):List Addr:= [lD (nsIn K mainGlobals "EMPTY"),lD (nsIn K mainGlobals "EOF")]
abbrev mH(K:Frag)(i:Nat):Addr:=(CM K).getD i 0
abbrev jO(K:Frag)(i:Nat):Addr:=(yH K).getD i 0
abbrev kR:List Nat:= [0,1,2,3,4,5,6,7,8,9,10,16,17,18,19,20,21,22,23,24]
abbrev HV(K:Frag)(x:Str)(v:Value):Bool:=nsIn K mainGlobals x==some (some v) || (nsIn K mainGlobals x==some none && bootBuiltins x==some v && x !="__name__")
abbrev B4:Value->Option Addr
 | .ref a=>some a
 | _=>none
abbrev Qa:Value->Option String
 | .type t=>some t
 | _=>none
abbrev Je:Value->Option Bool
 | .bool b=>some b
 | _=>none
abbrev Nj:Value->Option Int
 | .int i _=>some i
 | _=>none
abbrev Ni:Value->Option Str
 | .str s _=>some s
 | _=>none
abbrev Dr:Value->Bool
 | .none=>true
 | _=>false
abbrev Fm:Data->Bool
 | .plain=>true
 | _=>false
abbrev JS:Data->Option (Array DictEntry×Nat)
 | .dict es n=>some (es,n)
 | _=>none
abbrev L4:Data->Option (Array Value×Nat)
 | .seq its n=>some (its,n)
 | _=>none
abbrev JR:Data->Option FuncData
 | .func fd=>some fd
 | _=>none
abbrev JK:FuncBody->Option (List Stmt)
 | .stmts b=>some b
 | _=>none
abbrev uS(K:Frag)(C:Addr)(a:Addr):Bool:=((K.lookup a).bind λo=>o.dict.bind λdx=>G1 (B4 o.cls==some C && (Fm o.data && o.slots== #[])) ((K.lookup dx).bind λp=>G1 (Qa p.cls==some "dict" && (p.dict.isNone && p.slots== #[])) (JS p.data))).isSome
abbrev FN(f:AV->Value->Bool):List AV->List Value->Bool
 | [],[]=>true
 | x::r,u::s=>f x u && FN f r s
 | _,_=>false
abbrev zB(K:Frag)(t:String)(f:List Value->Bool)(a:Addr):Bool:=((K.lookup a).bind λo=>G1 (Qa o.cls==some t) (L4 o.data)).any λs=>f s.1.toList
abbrev PW(K:Frag)(oa:List Addr):Nat->AV->Value->Bool
 | 0,_,_=>false
 | n+1,v,u=>match v with
  | .none=>Dr u
  | .bool b=>Je u==some b
  | .int i=>Nj u==some i
  | .str s=>Ni u==some (aN s)
  | .obj i=>(B4 u).any λa=>oa[i]? ==some a
  | .U vs=>(B4 u).any (zB K "tuple" (FN (PW K oa n) vs))
  | .a vs=>(B4 u).any (zB K "list" (FN (PW K oa n) vs))
  | _=>false
abbrev QL(K:Frag)(x:Str):Gv->Bool
 | .fn i=>cf i 131 && HV K x (.ref (mH K i)) && keepIn K (.ref (mH K i))
 | .cls i=>kR.contains i && HV K x (.ref (jO K i)) && keepIn K (.ref (jO K i))
 | .bi b=>HV K x (ve b)
 | .rev=>HV K x (.type "reversed")
 | .enum=>HV K x (.type "enumerate")
 | .isinst=>HV K x (.builtin "isinstance")
 | .ty .bool=>HV K x (.type "bool")
 | .ty .int=>HV K x (.type "int")
 | .ty (.cls _)=>false
 | .val v=>((nsIn K mainGlobals x).bind id).any (PW K (Cq K) 6 v)
abbrev wx(K:Frag)(c:Nat):Bool:=IE K (jO K c) && (match P.clss[c]? with
 | some Cc=>(Cc.flds.all λf=>match Dh[f]? with | some n=>Ah K (jO K c) n | none=>true) &&
  (Cc.meths.all fun(m,f)=>cf f 131 && (match Dh[m]? with | some n=>Br K (jO K c) n (mH K f) | none=>true)) &&
  makesIn K (jO K c) && findIn K (.ref (jO K c)) "__init__"==some (some (.ref (mH K Cc.init))) && typeIn K (.ref (mH K Cc.init))==some (.type "function") && cf Cc.init 131
 | none=>true)
abbrev Qk(K:Frag):Bool:=(uS K (jO K 0) (lD (nsIn K mainGlobals "EMPTY")) && uS K (jO K 0) (lD (nsIn K mainGlobals "EOF")) && lD (nsIn K mainGlobals "EMPTY") !=lD (nsIn K mainGlobals "EOF")) &&
 (K.lookup sysModules).isSome && kR.all (wx K) && (kR.all λc=>kR.all λc'=>aW c c' || kin_not K (jO K c) (jO K c')) &&
 (specialIn K (.builtin "object.__class__") "__get__"==some (some (.builtin "getset_descriptor.__get__")) && takesIn K (.builtin "object.__class__")==some true) &&
 yk.all λx=>QL K x.1 x.2
abbrev O0(K:Frag)(fd:FuncData):Option (List AV):=cond (Dr fd.defaults) (some []) ((B4 fd.defaults).bind λT=>(K.lookup T).bind λo=>(L4 o.data).bind λs=>oV (Cq K) s.1.toList)
abbrev LK(K:Frag)(fd:FuncData)(dfl:List AV):Bool:=dm dfl.length fd.params.args.length && fd.closure.isEmpty && fd.globals==mainGlobals && fd.builtins==builtinsNs && codeIn K fd.code fd.qualname && j8 fd.params && rY (fd.params.args.map (·.arg)) fd.scope
abbrev yr(K:Frag)(a:Addr):Option Fn:=(K.lookup a).bind λo=>(JR o.data).bind λfd=>(JK fd.body).bind λbody=>(O0 K fd).bind λdfl=>cond (LK K fd dfl) (some (Au yk Dh fd.params dfl fd.scope body)) none
abbrev xD(K:Frag):List (Option Fn):=(cR 131).map λi=>cond (pB.contains i) none (yr K (mH K i))
abbrev PN:Nat->List Fn->List (Option Fn)
 | _,[]=> []
 | i,f::r=>cond (pB.contains i) none (some f)::PN (i+1) r
abbrev Al:List (Option Fn):=PN 0 H8
abbrev isFreed:Data->Bool
 | .freed=>true
 | _=>false
abbrev rA:Nat->List Obj->Frag
 | _,[]=> []
 | i,o::r=>cond (isFreed o.data) (rA (i+1) r) ((i,o)::rA (i+1) r)
abbrev oi(h:Heap):Frag:=rA 0 h.objs.toList
def Ag{a:Addr}{o:Obj}(l:List Obj):∀i:Nat,(rA i l).lookup a=some o->∃j,a=i+j/\l[j]? =some o/\isFreed o.data=false:=by
 induction l with
 | nil=>exact λzz h=>nomatch h
 | cons x r ih=>
  intro i h;have up:(rA (i+1) r).lookup a=some o->∃j,a=i+j/\(x::r)[j]? =some o/\isFreed o.data=false:=λh=>by
   refine dq (ih (i+1) h) λj e q z=>?_
   exact eF (j+1) (e.trans ((f6 i 1 j).trans (congrArg (i+ ·) (dn 1 j)))) q z
  have h:(cond (isFreed x.data) (rA (i+1) r) ((i,x)::rA (i+1) r)).lookup a=some o:=h;cases f:isFreed x.data with
  | true=>rw[f]at h;exact up h
  | false=>
   rw[f]at h;have h:(match a==i with | true=>some x | false=>(rA (i+1) r).lookup a)=some o:=h;cases q:(a==i)with
   | true=>
    rw[q]at h;have h:=ae h;subst h;exact eF 0 (beq_iff_eq.mp q) rfl f
   | false=>rw[q]at h;exact up h
set_option tactic.hygienic true in
theorem E2(h:Heap):(oi h).In h:=λa o e=>by
 refine dq (Ag _ 0 e) λj e1 q nf=>?_;rw[jh]at e1;subst e1;unfold Heap.get?
 erw [(show h.objs[a]? =some o from by erw [<- Array.getElem?_toList];exact q)]
 split
 ·rename_i c d s e;rw[ae e]at nf;exact nomatch nf
 ·rfl
abbrev Qj(K:Frag):Bool:=(uS K (jO K 0) (lD (nsIn K mainGlobals "EMPTY")) && uS K (jO K 0) (lD (nsIn K mainGlobals "EOF")) && lD (nsIn K mainGlobals "EMPTY") !=lD (nsIn K mainGlobals "EOF")) &&
 (K.lookup sysModules).isSome && kR.all (wx K) && (kR.all λc=>kR.all λc'=>aW c c' || kin_not K (jO K c) (jO K c')) &&
 (specialIn K (.builtin "object.__class__") "__get__"==some (some (.builtin "getset_descriptor.__get__")) && takesIn K (.builtin "object.__class__")==some true)
abbrev Qi(K:Frag):Bool:=yk.all λx=>QL K x.1 x.2
abbrev rK(K:Frag)(a n:Nat):List (Option Fn):=(iq a n).map λi=>cond (pB.contains i) none (yr K (mH K i))
abbrev mQ(a n:Nat):List (Option Fn):=PN a ((H8.drop a).take n)
def La{K:Frag}(h0:rK K 0 22=mQ 0 22)(h1:rK K 22 22=mQ 22 22)(h2:rK K 44 22=mQ 44 22)(h3:rK K 66 22=mQ 66 22)(h4:rK K 88 22=mQ 88 22)(h5:rK K 110 21=mQ 110 21):xD K=Al:=by
 have r:cR 131=iq 0 22++(iq 22 22++(iq 44 22++(iq 66 22++(iq 88 22++iq 110 21)))):=by kernel_rfl
 have e:Al=mQ 0 22++(mQ 22 22++(mQ 44 22++(mQ 66 22++(mQ 88 22++mQ 110 21)))):=by kernel_rfl
 erw [e,<- h0,<- h1,<- h2,<- h3,<- h4,<- h5]
 unfold xD
 erw [r,bp,bp,bp,bp,bp]
 rfl
abbrev hkSays:World->Heap->Prop:=λzz h=> ∃K:Frag,K.In h/\Qk K=true/\xD K=Al
def ho{r:OpenRow}{q:Program}{loose:List Str}{Xt:Shared->Bool}{XP:(Str->Option Value)->Heap->Prop}{d:DefRec}{kwd:List (Str×PySem.Expr)}{N:Nat}
  (left:LeftO r.prog q loose Xt (λs=>(Qj (oi s.heap),Qi (oi s.heap),rK (oi s.heap) 0 22,rK (oi s.heap) 22 22,rK (oi s.heap) 44 22,rK (oi s.heap) 66 22,rK (oi s.heap) 88 22,rK (oi s.heap) 110 21)) (λzz=>(true,true,mQ 0 22,mQ 22 22,mQ 44 22,mQ 66 22,mQ 88 22,mQ 110 21)) N)
  (hX:∀s,Xt s=true->XP (s.heap.nsMap mainGlobals) s.heap)(hXk:∀mg h h',XP mg h->(∀b o,h.get? b=some o->h'.get? b=some o)->XP mg h')
  (hdef:defOf q r.name=some (d,kwd))(hp:r.prog.theDef r.name=some (d.params,d.body,d.scope))(hk:kwWritten? d.params.kwonlyargs d.params.kw_defaults=some kwd)(hRf:∀s,Xt s=true->RecFacts r.records s.heap)(hwr:(!r.writes || r.records.isEmpty)=true)
  (k1:r.wellSaid=true)(ok:(chainsOk q && opensWell r.prog && (frees r.toRowW && r.within.isEmpty))=true)(hb:r.prog.bare)(hw:r.toRowW.promised)
  (call:WalkO q loose XP hkSays r.toRowW d kwd λf vs=>PySem.call f vs):r.Holds:=
 holds_open left (YP:=hkSays) (λzz s e=>by
   obtain⟨e1,e⟩:=aH e;obtain⟨e2,e⟩:=aH e;obtain⟨e3,e⟩:=aH e;obtain⟨e4,e⟩:=aH e;obtain⟨e5,e⟩:=aH e;obtain⟨e6,e⟩:=aH e;obtain⟨e7,e8⟩:=aH e;exact eF (oi s.heap) (E2 _) (ag.mpr ⟨e1,e2⟩) (La e3 e4 e5 e6 e7 e8))
  (λzz h h' xq1 k=>aL xq1 λK x e=>(bH K (x.keeps k) e)) hX hXk hdef hp hk hRf hwr k1 ok hb hw call
end
end Mine.Internal
end

namespace Mine.Internal.hd
def tw8309203274149972828:=True
universe PN.F xD mH CM TJ Dh yk Au j6.F CX.slot Ei mM.F cj.F Ft CX.gv G0 pF CX.inner qW tw.F Fs BK kU Fu wu Iq DF jn LK rY Cq Qk QL PW.F zB ve jO yH TN HV wx Br Ah IE uS rK Qi Qj hd.view_1_39 hd.env_1_41
end Mine.Internal.hd
section
open PySem PySem.W PyProof.Rows
namespace Mine.Internal
set_option Elab.async true in
set_option maxHeartbeats 8000000 in
theorem hd(fin:∀{q:Program}{loose:List Str}{XP:(Str->Option Value)->Heap->Prop}{d:DefRec}{kwd:List (Str×PySem.Expr)},d.name="law"->WalkO q loose XP hkSays PySem.Challenge.rw_nt0261_01.row.toRowW d kwd fun f vs=>call f vs):PySem.Challenge.rw_nt0261_01.Holds:=by
  w_on; o_law; o_head Hook.none; (case hw => w_witness2)
end Mine.Internal
end
section
open PySem
namespace Mine.Internal
mutual
abbrev Ut:Nat:=2 ^ 1024
@[irreducible] noncomputable def fQ(i:Int):Bool:=cf i.natAbs Ut
@[irreducible] noncomputable def cF(n:Nat):Bool:=dm n 1000000
inductive It where
 | str (s:List Nat)
 | enum (i:Nat) (s:List Nat)
 | vals (vs:List AV)
 | rng (cur step:Int) (n:Nat)
 | cell (k i:Nat)
inductive Fl where
 | next
 | cont
 | ret (v:AV)
abbrev Fl.ctorIdx(x:Fl):Nat:=Fl.casesOn x 0 1 (λzz=>2)
abbrev g9(a b c:Int):Nat:=(eN a b c).toNat
abbrev fL{β:Type}(x:AV)(k:Int->Option β):Option β:=match x with
 | .int i=>k i
 | _=>none
abbrev il{β:Type}(x:AV)(k:List Nat->Option β):Option β:=match x with
 | .str s=>k s
 | _=>none
abbrev tT{β:Type}(x:AV)(k:Bool->Option β):Option β:=match x with
 | .bool s=>k s
 | _=>none
abbrev nA{β:Type}(x:AV)(k:Nat->Option β):Option β:=match x with
 | .ref s=>k s
 | _=>none
abbrev JX{β:Type}(x:AV)(k:List AV->Option β):Option β:=match x with
 | .U s=>k s
 | _=>none
abbrev JY{β:Type}(x:AV)(k:Int->Int->Int->Option β):Option β:=match x with
 | .rng a b c=>k a b c
 | _=>none
abbrev vh{β:Type}(x:Int)(k:Nat->Option β):Option β:=match x with
 | .ofNat n=>k n
 | .negSucc _=>none
abbrev FU{α β:Type}(args:List α)(k:Option β):Option β:=match args with
 | []=>k
 | _::_=>none
abbrev qh{α β:Type}(args:List α)(k:α->Option β):Option β:=match args with
 | []=>none
 | x::r=>FU r (k x)
abbrev JZ{α β:Type}(args:List α)(k:α->α->Option β):Option β:=match args with
 | []=>none
 | x::r=>qh r (k x)
abbrev eU{β:Type}(b:Bool)(o:Option β):Option β:=match b with
 | true=>o
 | false=>none
abbrev aD(H:Hp)(k:Nat):Option (List AV):=match H[k]? with
 | some (.list vs)=>some vs
 | _=>none
end
mutual
/-- -/
noncomputable def mV:AV->Option PyData
 | .none=>some .none
 | .bool b=>some (.bool b)
 | .int i=>some (.int i)
 | .str s=>some (.str ⟨s.toArray⟩)
 | .U vs=>(toPDs vs).map .tuple
 | _=>none
noncomputable def toPDs:List AV->Option (List PyData)
 | []=>some []
 | a::r=>match mV a,toPDs r with
  | some x,some y=>some (x::y)
  | _,_=>none
end
mutual
abbrev CU(x y:Option PyData):Option Bool:=match x,y with
 | some p,some q=>match SeqAt.shaped p && SeqAt.shaped q with
  | true=>some (PyData.eqv p q)
  | false=>none
 | _,_=>none
abbrev Gi(H:Hp)(a b:AV):Option Bool:=match a with
 | .int a=>fL b λb=>some (decide (a=b))
 | .str a=>il b λb=>some (decide (a=b))
 | .ref i=>nA b λj=>(aD H i).bind λx=>(aD H j).bind λy=>cond (aW x.length y.length) (CU ((toPDs x).map .list) ((toPDs y).map .list)) (some false)
 | .U x=>JX b λy=>CU ((toPDs x).map .tuple) ((toPDs y).map .tuple)
 | _=>none
abbrev mD:AV->Bool
 | .none=>true
 | _=>false
abbrev N6(x:AV)(j:Nat):Option Bool:=match x with
 | .obj i=>some (aW i j)
 | .ref _=>some false
 | .none=>some false
 | .bool _=>some false
 | .int _=>some false
 | .str _=>some false
 | _=>none
abbrev N5(x:AV)(j:Nat):Option Bool:=match x with
 | .none=>some false
 | .obj _=>some false
 | .ref i=>some (aW i j)
 | _=>none
abbrev Dk(x y:AV):Option Bool:=match y with
 | .none=>some (mD x)
 | .obj j=>N6 x j
 | .ref j=>N5 x j
 | _=>none
abbrev Ef(o:CO)(a b:Int):Option Bool:=match o with
 | .lt=>some (decide (a<b))
 | .le=>some (decide (a<=b))
 | .gt=>some (decide (b<a))
 | .ge=>some (decide (b<=a))
 | _=>none
abbrev zL(o:CO)(a b:AV):Option Bool:=fL a λi=>fL b λj=>Ef o i j
abbrev gX:List AV->Option (List (List Nat))
 | []=>some []
 | .str s::r=>(gX r).map (s::·)
 | _=>none
abbrev Oa(x:List Nat)(b:AV):Option Bool:=match b with
 | .str s=>qh x λc=>some (s.contains c)
 | .U vs=>(gX vs).map λys=>ys.any λy=>decide (y=x)
 | _=>none
abbrev N9(a b:AV):Option Bool:=il a λx=>Oa x b
abbrev iI(H:Hp)(o:CO)(a b:AV):Option Bool:=match o with
 | .eq=>Gi H a b
 | .ne=>(Gi H a b).map (!·)
 | .is=>Dk a b
 | .isnot=>(Dk a b).map (!·)
 | .isin=>N9 a b
 | .notin=>(N9 a b).map (!·)
 | .lt=>zL .lt a b
 | .le=>zL .le a b
 | .gt=>zL .gt a b
 | .ge=>zL .ge a b
abbrev yK(b:Bool):Int:=if b then 1 else 0
abbrev G6(n:Nat):Int:=((2 ^ n:Nat):Int)
abbrev HM(a:Int)(n:Nat):Int:=match a with
 | .ofNat m=>((m ^ n:Nat):Int)
 | a=>a ^ n
abbrev ES(o:O2)(a b:Int):Option Int:=match o with
 | .add=>some (a+b)
 | .sub=>some (a-b)
 | .mod=>eU (!decide (b=0)) (some (gr a b))
 | .fdiv=>eU (!decide (b=0) && fQ b) (some (lh a b))
 | .mul=>eU (fQ a && fQ b) (some (a*b))
 | .pow=>eU (fQ a && decide (0<=b/\b<=64)) (some (HM a b.toNat))
 | .shl=>eU (fQ a && decide (0<=b/\b<=1024)) (some (a*G6 b.toNat))
 | .shr=>eU (decide (0<=b)) (some (lh a (G6 b.toNat)))
 | .band=>some (Builtin.bitAnd a b)
abbrev lK(H:Hp)(c:Cell):AV×Hp:=(.ref H.length,H++ [c])
abbrev O2.isAdd:O2->Bool
 | .add=>true
 | _=>false
abbrev O2.isSub:O2->Bool
 | .sub=>true
 | _=>false
abbrev O2.isMul:O2->Bool
 | .mul=>true
 | _=>false
abbrev D4(H:Hp):AV->Option (List AV)
 | .a vs=>some vs
 | .ref k=>aD H k
 | _=>none
abbrev nW(o:O2)(a b:AV)(H:Hp):Option (AV×Hp):=match a with
 | .int i=>fL b λj=>(ES o i j).map λk=>(.int k,H)
 | .bool x=>eU o.isSub (tT b λy=>some (.int (yK x-yK y),H))
 | .str x=>cond o.isAdd (il b λy=>eU (cF (x.length+y.length)) (some (.str (x++y),H))) (eU o.isMul (fL b λn=>eU (decide (0<=n/\n<=1000) && cF (x.length*1000)) (some (.str (cC n.toNat x).flatten,H))))
 | .ref k=>eU o.isAdd ((aD H k).bind λx=>(D4 H b).bind λy=>eU (cF (x.length+y.length)) (some (lK H (.list (x++y)))))
 | _=>none
abbrev bQ(n:Nat):List Nat:=(Nat.toDigits 10 n).map Char.toNat
abbrev dG:Int->List Nat
 | .ofNat n=>bQ n
 | .negSucc n=>45::bQ (n+1)
abbrev oe(sep:List Nat):List (List Nat)->List Nat
 | []=> []
 | [x]=>x
 | x::r=>x++sep++oe sep r
abbrev j2(sep:List Nat)(vs:List AV):Option AV:=match gX vs with
 | some xs=>match cF (xs.foldr (λx n=>x.length+sep.length+n) 0) && cF vs.length with
  | true=>some (.str (oe sep xs))
  | false=>none
 | none=>none
abbrev gf(c:Nat):List Nat->Option Nat
 | []=>none
 | x::r=>match aW x c with
  | true=>some 0
  | false=>(gf c r).map (· +1)
abbrev nP(c:Nat)(l:List Nat):List Nat:=(l.reverse.dropWhile (aW c)).reverse
abbrev eY(c:Nat):List Nat->List (List Nat)
 | []=> [[]]
 | x::r=>match aW x c with
  | true=> []::eY c r
  | false=>match eY c r with
   | []=> [[x]]
   | y::t=>(x::y)::t
abbrev du(c:Nat)(y:List Nat):List Nat->List Nat
 | []=> []
 | x::r=>match aW x c with
  | true=>y++du c y r
  | false=>x::du c y r
abbrev xO:List Nat->Option (List Nat)
 | []=>some []
 | x::r=>match cf x 128 with
  | false=>none
  | true=>(xO r).map ((match dm 65 x && dm x 90 with | true=>x+32 | false=>x)::·)
abbrev jw(f:Nat):List (Nat×AV)->Option AV
 | []=>none
 | (g,v)::r=>match aW g f with
  | true=>some v
  | false=>jw f r
abbrev oH(f:Nat)(v:AV):List (Nat×AV)->List (Nat×AV)
 | []=> [(f,v)]
 | (g,u)::r=>match aW g f with
  | true=>(f,v)::r
  | false=>(g,u)::oH f v r
abbrev kr(k:List Nat):List (List Nat×AV)->Option AV
 | []=>none
 | (g,v)::r=>if g=k then some v else kr k r
abbrev nS(k:List Nat)(v:AV):List (List Nat×AV)->List (List Nat×AV)
 | []=> [(k,v)]
 | (g,u)::r=>if g=k then(k,v)::r else(g,u)::nS k v r
abbrev wW (i:Int)(n:Nat):Option Nat:=match cF n with
 | false=>none
 | true=>match i with
  | .ofNat j=>match cf j n with | true=>some j | false=>none
  | .negSucc j=>match cf j n with | true=>some (n-(j+1)) | false=>none
abbrev rO(vs:List AV)(i:Int):Option AV:=(wW i vs.length).bind λj=>vs[j]?
abbrev HO(H:Hp)(i:Int):AV->Option AV
 | .str s=>(wW i s.length).bind λj=>(s[j]?).map λc=> .str [c]
 | .U vs=>rO vs i
 | .a vs=>rO vs i
 | .ref k=>(aD H k).bind λvs=>rO vs i
 | _=>none
abbrev rN(H:Hp)(a b:AV):Option AV:=fL b λi=>HO H i a
abbrev mI (n:Nat):Option AV->Option Nat
 | none=>some n
 | some (.int (.ofNat i))=>some i
 | _=>none
abbrev iw(a:AV)(lo hi:Option AV)(H:Hp):Option (AV×Hp):=match a with
 | .str s=>eU (cF s.length) ((mI 0 lo).bind λi=>(mI s.length hi).map λj=>(.str ((s.take j).drop i),H))
 | .a vs=>eU (cF vs.length) ((mI 0 lo).bind λi=>(mI vs.length hi).map λj=>lK H (.list ((vs.take j).drop i)))
 | _=>none
abbrev lJ:List AV->Option (List Bool)
 | []=>some []
 | .bool b::r=>(lJ r).map (b::·)
 | _=>none
abbrev EF(H:Hp):AV->Option Nat
 | .str s=>some s.length
 | .U vs=>some vs.length
 | .a vs=>some vs.length
 | .ref k=>(aD H k).map je
 | _=>none
abbrev KM(args:List AV)(H:Hp):Option (AV×Hp):=match args with
 | []=>none
 | x::r=>fL x λa=>match r with
  | []=>some (.rng 0 a 1,H)
  | y::r=>fL y λb=>match r with
   | []=>some (.rng a b 1,H)
   | z::r=>FU r (fL z λc=>eU (fQ c && !decide (c=0)) (some (.rng a b c,H)))
abbrev BR(b:BI)(args:List AV)(H:Hp):Option (AV×Hp):=match b with
 | .abs=>qh args λx=>fL x λi=>some (.int i.natAbs,H)
 | .chr=>qh args λx=>fL x λi=>vh i λn=>eU (cf n 1114112) (some (.str [n],H))
 | .ord=>qh args λx=>il x λs=>qh s λc=>some (.int c,H)
 | .len=>qh args λx=>(EF H x).bind λn=>eU (cF n) (some (.int n,H))
 | .divmod=>JZ args λx y=>fL x λa=>fL y λb=>eU (fQ b && !decide (b=0)) (some (.U [.int (lh a b), .int (gr a b)],H))
 | .int=>qh args λx=>tT x λb=>some (.int (yK b),H)
 | .list=>qh args λx=>JY x λa b c=>eU (cF (g9 a b c) && cw a b c) (some (lK H (.list ((cR (g9 a b c)).map λi:Nat=> .int (a+(i:Int)*c)))))
 | .max=>JZ args λx y=>fL x λa=>fL y λb=>some (.int (if b > a then b else a),H)
 | .min=>JZ args λx y=>fL x λa=>fL y λb=>some (.int (if b<a then b else a),H)
 | .str=>qh args λx=>fL x λi=>eU (fQ i) (some (.str (dG i),H))
 | .tuple=>qh args λx=>nA x λk=>(aD H k).bind λvs=>eU (cF vs.length) (some (.U vs,H))
 | .all=>qh args λx=>nA x λk=>(aD H k).bind λvs=>(lJ vs).map λbs=>(.bool (bs.all id),H)
 | .range=>KM args H
abbrev pW:Option Nat->Nat->Int
 | some i,j=>((j+i:Nat):Int)
 | none,_=> -1
abbrev Bt(s:List Nat)(args:List AV)(H:Hp):Option (AV×Hp):=match args with
 | []=>none
 | x::r=>il x λw=>qh w λc=>match r with
  | []=>some (.int (pW (gf c s) 0),H)
  | y::r=>FU r (fL y λz=>vh z λi=>some (.int (pW (gf c (s.drop i)) i),H))
abbrev Ex(s:List Nat)(args:List AV)(H:Hp):Option (AV×Hp):=qh args λx=>il x λw=>qh w λc=>(gf c s).map λi:Nat=>(.int (i:Int),H)
abbrev Jy(s:List Nat)(args:List AV)(H:Hp):Option (AV×Hp):=qh args λx=>nA x λk=>(aD H k).bind λvs=>(j2 s vs).map (·,H)
abbrev Ew(s:List Nat)(args:List AV)(H:Hp):Option (AV×Hp):=FU args (eU (cF s.length) ((xO s).map λx=>(.str x,H)))
abbrev Jx(s:List Nat)(args:List AV)(H:Hp):Option (AV×Hp):=JZ args λx y=>il x λw=>qh w λc=>il y λzz=>eU (!s.contains c) (some (.str s,H))
abbrev Bs(s:List Nat)(args:List AV)(H:Hp):Option (AV×Hp):=qh args λx=>il x λw=>qh w λc=>eU (cF s.length) (some (.str (nP c s),H))
abbrev Eu(s:List Nat)(args:List AV)(H:Hp):Option (AV×Hp):=qh args λx=>il x λw=>qh w λc=>eU (cF s.length) (some (lK H (.list ((eY c s).map .str))))
abbrev uc(s:List Nat)(m:Nat)(args:List AV)(H:Hp):Option (AV×Hp):=
 cond (aW m 4) (Bt s args H) (cond (aW m 5) (Ex s args H) (cond (aW m 6) (Jy s args H) (cond (aW m 7) (Ew s args H) (cond (aW m 8) (Jx s args H) (cond (aW m 9) (Bs s args H) (eU (aW m 10) (Eu s args H)))))))
abbrev Bu(k:Nat)(vs:List AV)(args:List AV)(H:Hp):Option (AV×Hp):=qh args λx=>eU (cF vs.length) (some (.none,H.set k (.list (vs++ [x]))))
abbrev NV(k:Nat)(vs:List AV)(args:List AV)(H:Hp):Option (AV×Hp):=FU args (eU (cF vs.length) ((vs.getLast?).map λx=>(x,H.set k (.list vs.dropLast))))
abbrev NW(es:List (List Nat×AV))(args:List AV)(H:Hp):Option (AV×Hp):=JZ args λx d=>il x λs=>some ((kr s es).getD d,H)
abbrev Fz(k m:Nat)(args:List AV)(H:Hp):Cell->Option (AV×Hp)
 | .list vs=>cond (aW m 0) (Bu k vs args H) (eU (aW m 1) (NV k vs args H))
 | .dict es=>eU (aW m 2) (NW es args H)
 | .n _ _=>none
abbrev kM(v:AV)(m:Nat)(args:List AV)(H:Hp):Option (AV×Hp):=match v with
 | .ref k=>(H[k]?).bind (Fz k m args H)
 | .int i=>eU (aW m 3) (FU args (some (.int ((gV i:Nat)),H)))
 | .str s=>uc s m args H
 | _=>none
abbrev lE(m:Nat):Option Cell->Bool
 | some (.list _)=>dm m 1
 | some (.dict _)=>aW m 2
 | _=>false
abbrev j9(H:Hp)(v:AV)(m:Nat):Bool:=match v with
 | .ref k=>lE m H[k]?
 | .int _=>aW m 3
 | .str _=>dm 4 m && dm m 10
 | _=>false
abbrev Fh(p:List Nat)(v:AV)(y1:Nat)(z1:List Nat)(y2:Nat)(z2:List Nat):Option AV:=il v λs=>
 eU (cF s.length && cF (du y1 z1 s).length && cF (p.length+(du y2 z2 (du y1 z1 s)).length) && dm z1.length 14 && dm z2.length 14 && !([y1]==z1) && !([y2]==z2)) (some (.str (p++du y2 z2 (du y1 z1 s))))
abbrev gW:AV->Option Bool
 | .bool b=>some b
 | _=>none
abbrev jg(ls:Ls)(i:Nat)(v:AV):Option Ls:=match cf i ls.length with
 | true=>some (ls.set i (some v))
 | false=>none
abbrev fo:Ls->List Nat->List AV->Option Ls
 | ls,[],[]=>some ls
 | ls,i::is,v::vs=>(jg ls i v).bind λls=>fo ls is vs
 | _,_,_=>none
abbrev jc(H:Hp)(ls:Ls):PT->AV->Option Ls
 | .one i,v=>jg ls i v
 | .many is, .U vs=>fo ls is vs
 | .many is, .ref k=>(aD H k).bind λvs=>fo ls is vs
 | _,_=>none
abbrev eV(ls:Ls)(t:PT):Bool:=t.slots.all λi=>match ls[i]? with
 | some none=>true
 | _=>false
abbrev gA(H:Hp):AV->Option It
 | .str s=>some (.str s)
 | .U vs=>some (.vals vs)
 | .a vs=>some (.vals vs)
 | .rng a b c=>eU (cw a b c) (some (.rng a c (g9 a b c)))
 | .ref k=>(aD H k).map λzz=> .cell k 0
 | _=>none
abbrev LV:AV->Option It
 | .str s=>some (.enum 0 s)
 | _=>none
abbrev sF(q:Bool)(H:Hp)(x:AV):Option It:=match q with
 | true=>LV x
 | false=>gA H x
abbrev It.next(H:Hp):It->Option (Option (AV×It))
 | .str []=>some none
 | .str (c::r)=>some (some (.str [c], .str r))
 | .enum _ []=>some none
 | .enum i (c::r)=>some (some (.U [.int i, .str [c]], .enum (i+1) r))
 | .vals []=>some none
 | .vals (v::r)=>some (some (v, .vals r))
 | .rng _ _ 0=>some none
 | .rng a c (n+1)=>some (some (.int a, .rng (a+c) c n))
 | .cell k i=>(aD H k).map λvs=>(vs[i]?).map λv=>(v, .cell k (i+1))
abbrev Cx(k:IK)(c':Nat):Bool:=match k with
 | .cls c=>aW c' c
 | _=>false
abbrev Qz:IK->Bool
 | .cls _=>false
 | _=>true
abbrev Qy:IK->Bool
 | .int=>true
 | _=>false
abbrev Qx(k:IK):Cell->Option Bool
 | .n c' _=>some (Cx k c')
 | _=>none
abbrev kh(P:Pg)(H:Hp)(k:IK)(v:AV):Option Bool:=match v with
 | .bool _=>some (Qz k)
 | .int _=>some (Qy k)
 | .obj i=>(P.objs[i]?).map (Cx k)
 | .ref i=>(H[i]?).bind (Qx k)
 | _=>none
abbrev wQ(P:Pg)(c f:Nat):Bool:=match P.clss[c]? with
 | some C=>C.flds.contains f
 | none=>false
abbrev FP(P:Pg)(f:Nat):Cell->Option AV
 | .n c fs=>eU (wQ P c f) (jw f fs)
 | _=>none
abbrev vf(P:Pg)(H:Hp)(x:AV)(f:Nat):Option AV:=nA x λk=>(H[k]?).bind (FP P f)
abbrev md:E->Bool
 | .not _=>true
 | .and _ _=>true
 | .or _ _=>true
 | .ife _ _ _=>true
 | _=>false
structure Ev where
 e:Nat->Ls->Hp->E->Option (AV×Hp)
 es:Nat->Ls->Hp->List E->Option (List AV×Hp)
 t:Nat->Ls->Hp->E->Option (Bool×Hp)
 s:Nat->Ls->Hp->S->Option (Fl×Ls×Hp)
 ss:Nat->Ls->Hp->List S->Option (Fl×Ls×Hp)
 asg:Nat->Ls->Hp->T->AV->Option (Ls×Hp)
 asgs:Nat->Ls->Hp->List T->List AV->Option (Ls×Hp)
 call:Nat->Hp->Nat->List AV->Option (AV×Hp)
 for_:Nat->Ls->Hp->It->PT->List S->Option (Fl×Ls×Hp)
 comp:Nat->Ls->Hp->It->PT->Option E->E->Nat->Option Hp
abbrev Ev.bot:Ev where
 e:=λzz zy zx zw=>none
 es:=λzz zy zx zw=>none
 t:=λzz zy zx zw=>none
 s:=λzz zy zx zw=>none
 ss:=λzz zy zx zw=>none
 asg:=λzz zy zx zw zv=>none
 asgs:=λzz zy zx zw zv=>none
 call:=λzz zy zx zw=>none
 for_:=λzz zy zx zw zv zu=>none
 comp:=λzz zy zx zw zv zu zt zs=>none
abbrev MT(f:E->Option (AV×Hp))(H:Hp):Option E->Option (Option AV×Hp)
 | none=>some (none,H)
 | some x=>(f x).map fun(v,H)=>(some v,H)
abbrev xI(P:Pg)(m:Nat):Cell->Option Nat
 | .n c fs=>match jw m fs with
  | none=>(P.clss[c]?).bind λC=>C.meths.lookup m
  | some zz=>none
 | _=>none
abbrev kO(P:Pg)(H:Hp):AV->Nat->Option Nat
 | .ref k,m=>(H[k]?).bind (xI P m)
 | _,_=>none
abbrev dO(P:Pg)(r:Ev)(d:Nat)(ls:Ls)(H:Hp):E->Option (AV×Hp)
 | .fail=>none
 | .lit v=>some (v,H)
 | .v i=>match ls[i]? with
  | some (some v)=>some (v,H)
  | _=>none
 | .list es=>(r.es d ls H es).bind fun(vs,H)=>eU (cF vs.length) (some (lK H (.list vs)))
 | .U es=>(r.es d ls H es).bind fun(vs,H)=>eU (cF vs.length) (some (.U vs,H))
 | .dict0=>some (lK H (.dict []))
 | .o o a b=>(r.e d ls H a).bind fun(x,H)=>(r.e d ls H b).bind fun(y,H)=>nW o x y H
 | .neg a=>(r.e d ls H a).bind fun(x,H)=>fL x λi=>some (.int (-i),H)
 | .not a=>(r.e d ls H a).bind fun(x,H)=>(gW x).map λb=>(.bool (!b),H)
 | .j o a b=>(r.e d ls H a).bind fun(x,H)=>(r.e d ls H b).bind fun(y,H)=>(iI H o x y).map λb=>(.bool b,H)
 | .chain a o b o' c=>(r.e d ls H a).bind fun(x,H)=>(r.e d ls H b).bind fun(y,H)=>(iI H o x y).bind λq=>match q with
  | false=>some (.bool false,H)
  | true=>(r.e d ls H c).bind fun(z,H)=>(iI H o' y z).map λb=>(.bool b,H)
 | .and a b=>(r.e d ls H a).bind fun(x,H)=>(gW x).bind λq=>match q with
  | false=>some (x,H)
  | true=>r.e d ls H b
 | .or a b=>(r.e d ls H a).bind fun(x,H)=>(gW x).bind λq=>match q with
  | true=>some (x,H)
  | false=>r.e d ls H b
 | .ife c a b=>(r.t d ls H c).bind fun(q,H)=>match q with
  | true=>r.e d ls H a
  | false=>r.e d ls H b
 | .aT a f=>(r.e d ls H a).bind fun(x,H)=>(vf P H x f).map λv=>(v,H)
 | .idx a b=>(r.e d ls H a).bind fun(x,H)=>(r.e d ls H b).bind fun(y,H)=>(rN H x y).map λv=>(v,H)
 | .slice a lo hi=>(r.e d ls H a).bind fun(x,H)=>(MT (r.e d ls H) H lo).bind fun(l,H)=>(MT (r.e d ls H) H hi).bind fun(h,H)=>iw x l h H
 | .call f as=>(r.es d ls H as).bind fun(vs,H)=>r.call d H f vs
 | .new c as=>(r.es d ls H as).bind fun(vs,H)=>(P.clss[c]?).bind λC=>
   (r.call d (H++ [.n c []]) C.init (.ref H.length::vs)).bind fun(x,H')=>eU (mD x) (some (.ref H.length,H'))
 | .bi b as=>(r.es d ls H as).bind fun(vs,H)=>BR b vs H
 | .h a k=>(r.e d ls H a).bind fun(x,H)=>(kh P H k x).map λb=>(.bool b,H)
 | .meth a m as=>(r.e d ls H a).bind fun(x,H)=>match kO P H x m with
  | some f=>(r.es d ls H as).bind fun(vs,H)=>r.call d H f (x::vs)
  | none=>eU (j9 H x m) ((r.es d ls H as).bind fun(vs,H)=>kM x m vs H)
 | .esc p x y1 z1 y2 z2=>(r.e d ls H x).bind fun(v,H)=>(Fh p v y1 z1 y2 z2).map λv=>(v,H)
 | .joinrev a b=>(r.e d ls H a).bind fun(x,H)=>(r.e d ls H b).bind fun(y,H)=>il x λs=>nA y λk=>(aD H k).bind λvs=>(j2 s vs.reverse).map (·,H)
 | .dget kvs k dv=>(r.e d ls H k).bind fun(x,H)=>(r.e d ls H dv).bind fun(y,H)=>fL x λi=>il y λy=>some (.str ((kvs.lookup i).getD y),H)
 | .comp elt t src en c=>match eV ls t with
  | false=>none
  | true=>(r.e d ls H src).bind fun(x,H)=>(sF en H x).bind λit=>(r.comp d ls (H++ [.list []]) it t c elt H.length).map λH'=>(.ref H.length,H')
abbrev mK(r:Ev)(d:Nat)(ls:Ls)(H:Hp):E->Option (Bool×Hp)
 | .not a=>(r.t d ls H a).map fun(b,H)=>(!b,H)
 | .and a b=>(r.t d ls H a).bind fun(q,H)=>match q with
  | false=>some (false,H)
  | true=>r.t d ls H b
 | .or a b=>(r.t d ls H a).bind fun(q,H)=>match q with
  | true=>some (true,H)
  | false=>r.t d ls H b
 | .ife c a b=>(r.t d ls H c).bind fun(q,H)=>match q with
  | true=>r.t d ls H a
  | false=>r.t d ls H b
 | e=>(r.e d ls H e).bind fun(x,H)=>(gW x).map λb=>(b,H)
abbrev oD(r:Ev)(d:Nat)(ls:Ls)(H:Hp):List E->Option (List AV×Hp)
 | []=>some ([],H)
 | x::xs=>(r.e d ls H x).bind fun(v,H)=>(r.es d ls H xs).map fun(vs,H)=>(v::vs,H)
abbrev D0(P:Pg)(H:Hp)(k f:Nat)(v:AV):Cell->Option Hp
 | .n c fs=>eU (wQ P c f && cf fs.length 20) (some (H.set k (.n c (oH f v fs))))
 | _=>none
abbrev lY(P:Pg)(H:Hp)(x:AV)(f:Nat)(v:AV):Option Hp:=nA x λk=>(H[k]?).bind (D0 P H k f v)
abbrev DZ(H:Hp)(k:Nat)(i v:AV):Cell->Option Hp
 | .list vs=>fL i λz=>vh z λj=>eU (cf j vs.length && cF vs.length) (some (H.set k (.list (vs.set j v))))
 | .dict es=>il i λs=>eU (cF es.length) (some (H.set k (.dict (nS s v es))))
 | _=>none
abbrev mW(H:Hp)(x i v:AV):Option Hp:=nA x λk=>(H[k]?).bind (DZ H k i v)
abbrev sE(P:Pg)(r:Ev)(d:Nat)(ls:Ls)(H:Hp)(t:T)(v:AV):Option (Ls×Hp):=match t with
 | .v i=>(jg ls i v).map (·,H)
 | .aT a f=>(r.e d ls H a).bind fun(x,H)=>(lY P H x f v).map (ls,·)
 | .idx a b=>(r.e d ls H a).bind fun(x,H)=>(r.e d ls H b).bind fun(i,H)=>(mW H x i v).map (ls,·)
 | .U ts=>JX v λvs=>r.asgs d ls H ts vs
abbrev oE(r:Ev)(d:Nat)(ls:Ls)(H:Hp)(ts:List T)(vs:List AV):Option (Ls×Hp):=match ts,vs with
 | [],[]=>some (ls,H)
 | t::ts,v::vs=>(r.asg d ls H t v).bind fun(ls,H)=>r.asgs d ls H ts vs
 | _,_=>none
abbrev pn(r:Ev)(d:Nat)(ls:Ls)(H:Hp):S->Option (Fl×Ls×Hp)
 | .fail=>none
 | .expr e=>(r.e d ls H e).map fun(zz,H)=>(.next,ls,H)
 | .ret e=>(r.e d ls H e).map fun(v,H)=>(.ret v,ls,H)
 | .retn=>some (.ret .none,ls,H)
 | .aS t e=>(r.e d ls H e).bind fun(v,H)=>(r.asg d ls H t v).map fun(ls,H)=>(.next,ls,H)
 | .ite c a b=>(r.t d ls H c).bind fun(q,H)=>match q with
  | true=>r.ss d ls H a
  | false=>r.ss d ls H b
 | .while c b=>(r.t d ls H c).bind fun(q,H)=>match q with
  | true=>(r.ss d ls H b).bind fun(f,ls,H)=>match f with
   | .ret v=>some (.ret v,ls,H)
   | _=>r.s d ls H (.while c b)
  | false=>some (.next,ls,H)
 | .for t src b=>(r.e d ls H src).bind fun(x,H)=>match gA H x with
  | some it=>r.for_ d ls H it t b
  | none=>none
 | .pass=>some (.next,ls,H)
 | .cont=>some (.cont,ls,H)
 | .try_ b=>r.ss d ls H b
abbrev oC(r:Ev)(d:Nat)(ls:Ls)(H:Hp):List S->Option (Fl×Ls×Hp)
 | []=>some (.next,ls,H)
 | x::xs=>(r.s d ls H x).bind fun(f,ls,H)=>match f with
  | .next=>r.ss d ls H xs
  | f=>some (f,ls,H)
abbrev iE(P:Pg)(r:Ev)(d:Nat)(H:Hp)(f:Nat)(args:List AV):Option (AV×Hp):=match d,P.fns[f]? with
 | d+1,some F=>
  let vs:=args++F.dfl.drop (F.dfl.length-(F.np-args.length))
  match vs.length==F.np with
  | true=>(r.ss d (vs.map some++cC (F.nl-F.np) none) H F.body).bind fun(fl,zz,H)=>match fl with
   | .ret v=>some (v,H)
   | .next=>some (.none,H)
   | .cont=>none
  | false=>none
 | _,_=>none
abbrev mz(r:Ev)(d:Nat)(ls:Ls)(H:Hp)(it:It)(t:PT)(b:List S):Option (Fl×Ls×Hp):=(it.next H).bind λo=>match o with
 | none=>some (.next,ls,H)
 | some (v,it)=>(jc H ls t v).bind λls=>(r.ss d ls H b).bind fun(f,ls,H)=>match f with
  | .ret v=>some (.ret v,ls,H)
  | _=>r.for_ d ls H it t b
abbrev kF(r:Ev)(d:Nat)(ls:Ls)(H:Hp)(it:It)(t:PT)(c:Option E)(elt:E)(k:Nat):Option Hp:=(it.next H).bind λo=>match o with
 | none=>some H
 | some (v,it)=>(jc H ls t v).bind λls=>(match c with
   | none=>some (true,H)
   | some c=>r.t d ls H c).bind fun(q,H)=>match q with
  | false=>r.comp d ls H it t c elt k
  | true=>(r.e d ls H elt).bind fun(x,H)=>(kM (.ref k) 0 [x] H).bind fun(zz,H)=>r.comp d ls H it t c elt k
abbrev Ev.step(P:Pg)(r:Ev):Ev where
 e:=dO P r
 es:=oD r
 t:=mK r
 s:=pn r
 ss:=oC r
 asg:=sE P r
 asgs:=oE r
 call:=iE P r
 for_:=mz r
 comp:=kF r
abbrev ev(P:Pg):Nat->Ev
 | 0=> .bot
 | n+1=> .step P (ev P n)
end
end Mine.Internal
end
section
open PySem PySem.Calls PyProof.Rows PySem.W
namespace Mine.Internal
mutual
variable{xs:List AV}{h':Heap}{o':Obj}{B'':BgT}{v:Value}{l F1:Raws}
noncomputable abbrev BgT:=Addr->Option Obj
abbrev Gh(B B':BgT):Prop:= ∀b o,B b=some o->B' b=some o
def Gh.refl(B:BgT):Gh B B:=λzz zy e=>e
def Gh.trans{B B':BgT}(x:Gh B B')(y:Gh B' B''):Gh B B'':=λb o e=>y b o (x b o e)
abbrev BgT.put(B:BgT)(a:Addr)(o:Obj):BgT:=λb=>if b=a then some o else B b
def Gh.put{B:BgT}{a:Addr}{o:Obj}(h:B a=none):Gh B (B.put a o):=λb x e=>by
 unfold BgT.put
 split
 ·rename_i q;subst q;rw[h]at e;cases e
 ·exact e
def kI{B:BgT}{a:Addr}{o:Obj}:B.put a o a=some o:=if_pos rfl
def vO{B:BgT}{a b:Addr}{o:Obj}(h:b≠a):B.put a o b=B b:=if_neg h
structure Wd where
 prog:Program
 w:World
 K:Frag
 base:Heap
 p:Program
 loose:List Str
 mg:Str->Option Value
 mb:Str->Option Value
 fa:List Addr
 ca:List Addr
 oa:List Addr
 glob:List (Str×Gv)
 nm:List Str
 P:Pg
abbrev Wd.cat(W:Wd)(c:Nat):Option Addr:=cond (dm 11 c && dm c 15) none W.ca[c]?
noncomputable abbrev Wd.M(W:Wd):Model:=model W.prog W.w
noncomputable abbrev y8(its:Array Value)(n:Nat):Obj:={cls:= .type "tuple",data:= .seq its n}
abbrev tm(o:Obj)(its:List Value):Prop:=o.cls= .type "tuple"/\∃n,o.data= .seq its.toArray n
abbrev pN(o:Obj)(its:List Value):Prop:=o.cls= .type "list"/\∃n,o.data= .seq its.toArray n
abbrev v5(o:Obj)(a b c:Int):Prop:= ∃t u w,o={cls:= .type "range",data:= .fields #[.int a t, .int b u, .int c w]}
end
mutual
/-- -/
inductive VR(W:Wd)(B:BgT)(ρ:List Addr):AV->Value->Prop
 | none:VR W B ρ .none .none
 | bool {b:Bool}:VR W B ρ (.bool b) (.bool b)
 | int {i:Int} {t:Tok}:VR W B ρ (.int i) (.int i t)
 | str {s:List Nat} {t:Tok}:VR W B ρ (.str s) (.str (aN s) t)
 | U {vs:List AV} {a:Addr} {o:Obj} {its:List Value}:B a=some o->tm o its->VRs W B ρ vs its->VR W B ρ (.U vs) (.ref a)
 | a {vs:List AV} {a:Addr} {o:Obj} {its:List Value}:B a=some o->pN o its->VRs W B ρ vs its->VR W B ρ (.a vs) (.ref a)
 | obj {i:Nat} {a:Addr}:W.oa[i]? =some a->VR W B ρ (.obj i) (.ref a)
 | rng {a b c:Int} {l:Addr} {o:Obj}:B l=some o->v5 o a b c->VR W B ρ (.rng a b c) (.ref l)
 | ref {k:Nat} {a:Addr}:ρ[k]? =some a->VR W B ρ (.ref k) (.ref a)
inductive VRs(W:Wd)(B:BgT)(ρ:List Addr):List AV->List Value->Prop
 | nil:VRs W B ρ [] []
 | cons {x:AV} {v:Value} {xs:List AV} {vs:List Value}:VR W B ρ x v->VRs W B ρ xs vs->VRs W B ρ (x::xs) (v::vs)
end
mutual
structure Grow(B:BgT)(ρ:List Addr)(B':BgT)(ρ':List Addr):Prop where
 b:Gh B B'
 r:∃t,ρ'=ρ++t
def Grow.refl(B:BgT)(ρ:List Addr):Grow B ρ B ρ:=⟨.refl B,[],(bq ρ).symm⟩
def Grow.trans{B B':BgT}{ρ ρ' ρ'':List Addr}(x:Grow B ρ B' ρ')(y:Grow B' ρ' B'' ρ''):Grow B ρ B'' ρ'':=
 ⟨x.b.trans y.b,by obtain⟨t,xq1⟩:=x.r;subst xq1;obtain⟨u,xq2⟩:=y.r;subst xq2;exact⟨t++u,aA ..⟩⟩
def Grow.at{B B':BgT}{ρ ρ':List Addr}(x:Grow B ρ B' ρ'){k:Nat}{a:Addr}(h:ρ[k]? =some a):ρ'[k]? =some a:=by
 obtain⟨t,xq3⟩:=x.r;subst xq3
 erw [dj (aT.mp h).1];exact h
def Grow.ofB{B B':BgT}(ρ:List Addr)(x:Gh B B'):Grow B ρ B' ρ:=⟨x,[],(bq ρ).symm⟩
def Grow.push(B:BgT)(ρ:List Addr)(a:Addr):Grow B ρ B (ρ++ [a]):=⟨.refl B,[a],rfl⟩
end
section
mutual
variable{B B':BgT}{ρ ρ':List Addr}
variable{W:Wd}
def VR.mono(h:Grow B ρ B' ρ'){x:AV}{v:Value}(r:VR W B ρ x v):VR W B' ρ' x v:=
 VR.rec (motive_1:=λx v zz=>VR W B' ρ' x v) (motive_2:=λx v zz=>VRs W B' ρ' x v) .none .bool .int .str (λe i zz r=> .U (h.b _ _ e) i r) (λe i zz r=> .a (h.b _ _ e) i r) .obj (λe i=> .rng (h.b _ _ e) i) (λe=> .ref (h.at e)) .nil (λzz zy r s=> .cons r s) r
def VRs.ind{m:List AV->List Value->Prop}(n:m [] [])(c:∀{x v xs vs},VR W B ρ x v->VRs W B ρ xs vs->m xs vs->m (x::xs) (v::vs)){xs:List AV}{vs:List Value}(r:VRs W B ρ xs vs):m xs vs:=
 VRs.rec (motive_1:=λzz zy zx=>True) (motive_2:=λx v zz=>m x v) trivial trivial trivial trivial (λzz zy zx zw=>trivial) (λzz zy zx zw=>trivial) (λzz=>trivial) (λzz zy=>trivial) (λzz=>trivial) n (λh r zz ih=>c h r ih) r
def VRs.mono(h:Grow B ρ B' ρ'){x:List AV}{v:List Value}(r:VRs W B ρ x v):VRs W B' ρ' x v:=r.ind .nil λr zz s=> .cons (r.mono h) s
end
end
mutual
def VRs.length{W:Wd}{B:BgT}{ρ:List Addr}{vs:List Value}(r:VRs W B ρ xs vs):vs.length=xs.length:=r.ind (m:=λxs vs=>vs.length=xs.length) rfl λzz zy h=>congrArg (· +1) h
def VRs.get{W:Wd}{B:BgT}{ρ:List Addr}{vs:List Value}(r:VRs W B ρ xs vs):∀{i:Nat} {x:AV},xs[i]? =some x->∃v,vs[i]? =some v/\VR W B ρ x v:=
 r.ind (m:=λxs vs=> ∀{i:Nat} {x:AV},xs[i]? =some x->∃v,vs[i]? =some v/\VR W B ρ x v) (λe=>nomatch e) λh zz ih i=>by
  cases i using bL with
  | zero=>exact λe=>⟨_,rfl,ae e ▸h⟩
  | succ i=>exact λe=>ih (i:=i) e
def VRs.set{W:Wd}{B:BgT}{ρ:List Addr}{vs:List Value}(r:VRs W B ρ xs vs)(i:Nat){x:AV}(a:VR W B ρ x v):VRs W B ρ (xs.set i x) (vs.set i v):=
 r.ind (m:=λxs vs=> ∀i,VRs W B ρ (xs.set i x) (vs.set i v)) (λzz=> .nil) (λh r ih i=>by
  cases i using bL with
  | zero=>exact .cons a r
  | succ i=>exact .cons h (ih i)) i
def VRs.append{W:Wd}{B:BgT}{ρ:List Addr}{ys:List AV}{vs us:List Value}(r:VRs W B ρ xs vs)(k:VRs W B ρ ys us):VRs W B ρ (xs++ys) (vs++us):=
 r.ind (m:=λxs vs=>VRs W B ρ (xs++ys) (vs++us)) k λh zz ih=> .cons h ih
def VRs.drop{W:Wd}{B:BgT}{ρ:List Addr}{vs:List Value}(r:VRs W B ρ xs vs)(i:Nat):VRs W B ρ (xs.drop i) (vs.drop i):=
 r.ind (m:=λxs vs=> ∀i,VRs W B ρ (xs.drop i) (vs.drop i)) (λi=>by induction i using bL <;> exact .nil) (λh r ih i=>by
  cases i using bL with
  | zero=>exact .cons h r
  | succ i=>exact ih i) i
def VRs.take{W:Wd}{B:BgT}{ρ:List Addr}{vs:List Value}(r:VRs W B ρ xs vs)(i:Nat):VRs W B ρ (xs.take i) (vs.take i):=
 r.ind (m:=λxs vs=> ∀i,VRs W B ρ (xs.take i) (vs.take i)) (λi=>by induction i using bL <;> exact .nil) (λh zz ih i=>by
  cases i using bL with
  | zero=>exact .nil
  | succ i=>exact .cons h (ih i)) i
def VRs.reverse{W:Wd}{B:BgT}{ρ:List Addr}{vs:List Value}(r:VRs W B ρ xs vs):VRs W B ρ xs.reverse vs.reverse:=
 r.ind (m:=λxs vs=>VRs W B ρ xs.reverse vs.reverse) .nil fun{x v xs vs} h zz ih=>ox ▸(ox (a:=v)).symm ▸ih.append (.cons h .nil)
def VRs.dropLast{W:Wd}{B:BgT}{ρ:List Addr}{vs:List Value}(h:VRs W B ρ xs vs):VRs W B ρ xs.dropLast vs.dropLast:=by
 erw [rR,rR,h.length];exact h.take _
def VR.handed{W:Wd}{B:BgT}{ρ:List Addr}{x:AV}(h:VR W B ρ x v):handedIn v=true:=VR.casesOn (motive_1:=λzz v zy=>handedIn v=true) h rfl rfl rfl rfl (λzz zy zx=>rfl) (λzz zy zx=>rfl) (λzz=>rfl) (λzz zy=>rfl) λzz=>rfl
end
section
mutual
variable{u:Value}{x:AV}{us:List Value}{xs vs:List AV}{α γ:Type}{b:Bool}{i:Int}{k:Nat}
variable{W:Wd}{B:BgT}{ρ:List Addr}{β:Type}{r:β}
def dz{a:α}{p:Prop}(h:(none:Option α)=some a):p:=nomatch h
def ll{p:Prop}(h:false=true):p:=Bool.noConfusion h
abbrev VI(W:Wd)(B:BgT)(ρ:List Addr)(x:AV)(u:Value):Prop:=
 AV.casesOn (motive_1:=λzz=>Prop) x (u= .none) (λb=>u= .bool b) (λi=> ∃t,u= .int i t) (λs=> ∃t,u= .str (aN s) t) (λvs=> ∃a o its,u= .ref a/\B a=some o/\tm o its/\VRs W B ρ vs its)
  (λvs=> ∃a o its,u= .ref a/\B a=some o/\pN o its/\VRs W B ρ vs its) (λk=> ∃a,u= .ref a/\W.oa[k]? =some a) (λa b c=> ∃l o,u= .ref l/\B l=some o/\v5 o a b c) (λk=> ∃a,u= .ref a/\ρ[k]? =some a)
def vI(h:VR W B ρ x u):VI W B ρ x u:=
 VR.casesOn (motive_1:=λx u zz=>VI W B ρ x u) h rfl rfl ⟨_,rfl⟩ ⟨_,rfl⟩ (λa b c=>(pR _ _ _ rfl a b c)) (λa b c=>(pR _ _ _ rfl a b c)) (λa=>(bH _ rfl a)) (λa b=>(i5 _ _ rfl a b)) λa=>(bH _ rfl a)
def rH(h:VR W B ρ (.int i) u):∃t,u= .int i t:=vI h
def mw{s:List Nat}(h:VR W B ρ (.str s) u):∃t,u= .str (aN s) t:=vI h
def nY(h:VR W B ρ (.bool b) u):u= .bool b:=vI h
def AU(h:VR W B ρ .none u):u= .none:=vI h
def mT(h:VR W B ρ (.ref k) u):∃a,u= .ref a/\ρ[k]? =some a:=vI h
def Gx(h:VR W B ρ (.obj k) u):∃a,u= .ref a/\W.oa[k]? =some a:=vI h
def Dw(h:VR W B ρ (.U vs) u):∃a o its,u= .ref a/\B a=some o/\tm o its/\VRs W B ρ vs its:=vI h
def sd(h:VR W B ρ (.a vs) u):∃a o its,u= .ref a/\B a=some o/\pN o its/\VRs W B ρ vs its:=vI h
def Nk{a b c:Int}(h:VR W B ρ (.rng a b c) u):∃l o,u= .ref l/\B l=some o/\v5 o a b c:=vI h
abbrev Tp(W:Wd)(B:BgT)(ρ:List Addr)(xs:List AV)(us:List Value):Prop:=au (motive:=λzz=>Prop) xs (us= []) λx xs=> ∃u vs,us=u::vs/\VR W B ρ x u/\VRs W B ρ xs vs
def R1(h:VRs W B ρ xs us):Tp W B ρ xs us:=VRs.casesOn (motive_2:=λx u zz=>Tp W B ρ x u) h rfl λa b=>(i5 _ _ rfl a b)
def vq(h:VRs W B ρ [] us):us= []:=R1 h
def jl(h:VRs W B ρ (x::xs) us):∃u vs,us=u::vs/\VR W B ρ x u/\VRs W B ρ xs vs:=R1 h
@[elab_as_elim] theorem mP{k:Int->Option β}{G:Value->Prop}(h:fL x k=some r)(hv:VR W B ρ x u)(g:∀i t,k i=some r->G (.int i t)):G u:=by
 cases x using AV.casesOn with
 | int i=>obtain⟨t,e⟩:=rH hv;erw [e];exact g i t h
 | _=>exact dz h
@[elab_as_elim] theorem sv{k:List Nat->Option β}{G:Value->Prop}(h:il x k=some r)(hv:VR W B ρ x u)(g:∀s t,k s=some r->G (.str (aN s) t)):G u:=by
 cases x using AV.casesOn with
 | str i=>obtain⟨t,e⟩:=mw hv;erw [e];exact g i t h
 | _=>exact dz h
@[elab_as_elim] theorem Pv{k:Bool->Option β}{G:Value->Prop}(h:tT x k=some r)(hv:VR W B ρ x u)(g:∀b,k b=some r->G (.bool b)):G u:=by
 cases x using AV.casesOn with
 | bool i=>erw [nY hv];exact g i h
 | _=>exact dz h
@[elab_as_elim] theorem zF{k:Nat->Option β}{G:Value->Prop}(h:nA x k=some r)(hv:VR W B ρ x u)(g:∀j a,ρ[j]? =some a->k j=some r->G (.ref a)):G u:=by
 cases x using AV.casesOn with
 | ref i=>refine aL (mT hv) λa e ha=>?_;erw [e];exact g i a ha h
 | _=>exact dz h
@[elab_as_elim] theorem Qf{k:Int->Int->Int->Option β}{G:Value->Prop}(h:JY x k=some r)(hv:VR W B ρ x u)(g:∀a b c l o,B l=some o->v5 o a b c->k a b c=some r->G (.ref l)):G u:=by
 cases x using AV.casesOn with
 | rng a b c=>refine dX (Nk hv) λl o e h1 h2=>?_;erw [e];exact g a b c l o h1 h2 h
 | _=>exact dz h
@[elab_as_elim] theorem Lh{k:Nat->Option β}{G:Int->Prop}(h:vh i k=some r)(g:∀n:Nat,k n=some r->G (n:Int)):G i:=by
 cases i using iu with
 | ofNat n=>exact g n h
 | negSucc zz=>exact dz h
@[elab_as_elim] theorem v0{k:Option β}{G:List Value->Prop}(h:FU xs k=some r)(hv:VRs W B ρ xs us)(g:k=some r->G []):G us:=by
 cases xs using au with
 | nil=>erw [vq hv];exact g h
 | cons zz zy=>exact dz h
@[elab_as_elim] theorem v1{k:AV->Option β}{G:List Value->Prop}(h:qh xs k=some r)(hv:VRs W B ρ xs us)(g:∀x u,VR W B ρ x u->k x=some r->G [u]):G us:=by
 cases xs using au with
 | nil=>exact dz h
 | cons x xs=>refine dX (jl hv) λu vs e h1 h2=>?_;erw [e];exact v0 (G:=λvs=>G (u::vs)) h h2 λh=>g x u h1 h
@[elab_as_elim] theorem v2{k:AV->AV->Option β}{G:List Value->Prop}(h:JZ xs k=some r)(hv:VRs W B ρ xs us)(g:∀x y u v,VR W B ρ x u->VR W B ρ y v->k x y=some r->G [u,v]):G us:=by
 cases xs using au with
 | nil=>exact dz h
 | cons x xs=>refine dX (jl hv) λu vs e h1 h2=>?_;erw [e];exact v1 (G:=λvs=>G (u::vs)) h h2 λy v h3 h=>g x y u v h1 h3 h
@[elab_as_elim] theorem zQ{xs:List α}{k:α->Option β}{G:List α->Prop}(h:qh xs k=some r)(g:∀c,k c=some r->G [c]):G xs:=by
 cases xs using au with
 | nil=>exact dz h
 | cons x xs=>cases xs using au with
  | nil=>exact g x h
  | cons zz zy=>exact dz h
def kA{o:Option β}{p:Prop}(h:eU b o=some r)(g:b=true->o=some r->p):p:=by
 induction b using aE
 ·exact dz h
 ·exact g rfl h
def nu{x y:Option β}{p:Prop}(h:cond b x y=some r)(g:b=true->x=some r->p)(g':b=false->y=some r->p):p:=by
 induction b using aE
 ·exact g' rfl h
 ·exact g rfl h
def jd{x:Option α}{f:α->Option β}{p:Prop}(h:x.bind f=some r)(g:∀a,x=some a->f a=some r->p):p:=aL (ct.mp h) λa h1 h2=>g a h1 h2
def jV{x:Option α}{f:α->β}{p:Prop}(h:x.map f=some r)(g:∀a,x=some a->f a=r->p):p:=aL (bK.mp h) λa h1 h2=>g a h1 h2
@[elab_as_elim] theorem gh{δ:Type}{a c:γ}{b d:δ}{G:γ->δ->Prop}(h:some (a,b)=some (c,d))(k:G a b):G c d:=by
 have:=ae h
 erw [<- (aH this).1,<- (aH this).2]
 exact k
@[elab_as_elim] theorem oo{a c:γ}{G:γ->Prop}(h:some a=some c)(k:G a):G c:=ae h ▸k
end
end
mutual
def Gj{γ:Type}{a c:γ}{G:γ->Prop}(h:some a=some c)(k:G c):G a:=ae h ▸k
def Jv{M:Model}{α:Type}{A:Around}{t:Sem α}{Q:α->Shared->Prop}{E:Value->Shared->Prop}{s:Shared}(h:wpAny M A t Q (λzz zy=>False) s):wpAny M A t Q E s:=dN h (λzz zy q=>q) λzz zy e=>e.elim
def VRs.getA{W:Wd}{B:BgT}{ρ:List Addr}{vs:List Value}(r:VRs W B ρ xs vs){i:Nat}{x:AV}(h:xs[i]? =some x):∃v,vs.toArray[i]? =some v/\VR W B ρ x v:=aL (r.get h) λv a b=>⟨v,dH.trans a,b⟩
def VRs.getN{W:Wd}{B:BgT}{ρ:List Addr}{vs:List Value}(r:VRs W B ρ xs vs){i:Nat}(h:xs[i]? =none):vs.toArray[i]? =none:=dH.trans (fm.mpr (r.length ▸fm.mp h))
class inductive EntAre(W:Wd)(B:BgT)(ρ:List Addr):List (Nat×AV)->List DictEntry->Prop
 | nil:EntAre W B ρ [] []
 | cons {f:Nat} {n:Str} {v:AV} {u:Value} {h:Int} {t:Tok} {fs es}:W.nm[f]? =some n->VR W B ρ v u->EntAre W B ρ fs es->EntAre W B ρ ((f,v)::fs) (⟨h, .str n t,u⟩::es)
class inductive DEnt(W:Wd)(B:BgT)(ρ:List Addr):List (List Nat×AV)->List (Str×Value)->Prop
 | nil:DEnt W B ρ [] []
 | cons {k:List Nat} {v:AV} {u:Value} {fs es}:VR W B ρ v u->DEnt W B ρ fs es->DEnt W B ρ ((k,v)::fs) ((aN k,u)::es)
def EntAre.mono{W:Wd}{B B':BgT}{ρ ρ':List Addr}(h:Grow B ρ B' ρ'){x es}(r:EntAre W B ρ x es):EntAre W B' ρ' x es:=EntAre.rec (motive:=λx es zz=>EntAre W B' ρ' x es) .nil (λe v zz r=> .cons e (v.mono h) r) r
def DEnt.mono{W:Wd}{B B':BgT}{ρ ρ':List Addr}(h:Grow B ρ B' ρ'){x es}(r:DEnt W B ρ x es):DEnt W B' ρ' x es:=DEnt.rec (motive:=λx es zz=>DEnt W B' ρ' x es) .nil (λv zz r=> .cons (v.mono h) r) r
noncomputable abbrev Raws:=List (Addr×Obj)
inductive CellR(W:Wd)(B:BgT)(ρ:List Addr):Cell->Addr->Raws->Prop
 | list {a:Addr} {vs:List AV} {its:List Value} {n:Nat}:VRs W B ρ vs its->CellR W B ρ (.list vs) a [(a,listOf its.toArray n)]
 | n {a dx C:Addr} {c:Nat} {fs:List (Nat×AV)} {es:List DictEntry} {n:Nat}:W.cat c=some C->EntAre W B ρ fs es->CellR W B ρ (.n c fs) a [(a,instObj C dx),(dx,dictOf es n)]
 | dict {a:Addr} {ks:List (List Nat×AV)} {o:Obj} {kvs:List (Str×Value)}:o.IsDictOf (strKind W.prog W.w) kvs->DEnt W B ρ ks kvs->CellR W B ρ (.dict ks) a [(a,o)]
def CellR.mono{W:Wd}{B B':BgT}{ρ ρ':List Addr}(h:Grow B ρ B' ρ'){c:Cell}{a:Addr}{r:Raws}(x:CellR W B ρ c a r):CellR W B' ρ' c a r:=
 CellR.casesOn (motive:=λc a r zz=>CellR W B' ρ' c a r) x (λv=> .list (v.mono h)) (λe v=> .n e (v.mono h)) λi v=> .dict i (v.mono h)
class inductive Cells(W:Wd)(B:BgT)(ρ:List Addr):Hp->List Addr->Raws->Prop
 | nil:Cells W B ρ [] [] []
 | cons {c:Cell} {a:Addr} {r:Raws} {H as rs}:CellR W B ρ c a r->Cells W B ρ H as rs->Cells W B ρ (c::H) (a::as) (r++rs)
abbrev CI(W:Wd)(B:BgT)(ρ:List Addr)(c:Cell)(a:Addr)(r:Raws):Prop:=
 Cell.casesOn (motive:=λzz=>Prop) c (λvs=> ∃its n,r= [(a,listOf its.toArray n)]/\VRs W B ρ vs its) (λc fs=> ∃dx C es n,r= [(a,instObj C dx),(dx,dictOf es n)]/\W.cat c=some C/\EntAre W B ρ fs es)
  λks=> ∃o kvs,r= [(a,o)]/\o.IsDictOf (strKind W.prog W.w) kvs/\DEnt W B ρ ks kvs
def CellR.inv{W:Wd}{B:BgT}{ρ:List Addr}{c:Cell}{a:Addr}{r:Raws}(x:CellR W B ρ c a r):CI W B ρ c a r:=
 CellR.casesOn (motive:=λc a r zz=>CI W B ρ c a r) x (λv=>(kS _ _ rfl v)) (λe v=>(yg _ _ _ _ rfl e v)) λi v=>(i5 _ _ rfl i v)
def CellR.hd{W:Wd}{B:BgT}{ρ:List Addr}{c:Cell}{a:Addr}{r:Raws}(x:CellR W B ρ c a r):∃o,(a,o)∈r:=
 CellR.casesOn (motive:=λc a r zz=> ∃o,(a,o)∈r) x (λzz=>⟨_, .head _⟩) (λzz zy=>⟨_, .head _⟩) λzz zy=>⟨_, .head _⟩
def Cells.mono{W:Wd}{B B':BgT}{ρ ρ':List Addr}(h:Grow B ρ B' ρ'){H as rs}(r:Cells W B ρ H as rs):Cells W B' ρ' H as rs:=Cells.rec (motive:=λH as rs zz=>Cells W B' ρ' H as rs) .nil (λx zz r=> .cons (x.mono h) r) r
def Cells.length{W:Wd}{B:BgT}{ρ:List Addr}{H as rs}(r:Cells W B ρ H as rs):as.length=H.length:=Cells.rec (motive:=λH as zz zy=>as.length=H.length) rfl (λzz zy h=>congrArg (· +1) h) r
def Cells.snoc{W:Wd}{B:BgT}{ρ:List Addr}{c:Cell}{a:Addr}{r:Raws}(x:CellR W B ρ c a r){H as rs}(s:Cells W B ρ H as rs):Cells W B ρ (H++ [c]) (as++ [a]) (rs++r):=
 Cells.rec (motive:=λH as rs zz=>Cells W B ρ (H++ [c]) (as++ [a]) (rs++r)) (Eq.subst (motive:=λz=>Cells W B ρ [c] [a] z) (bq r) (.cons x .nil)) (λy zz ih=>(aA ..).symm ▸.cons y ih) s
def Cells.at{W:Wd}{B:BgT}{ρ:List Addr}{H as rs}(s:Cells W B ρ H as rs):∀{i:Nat} {a:Addr},as[i]? =some a->∃o,(a,o)∈rs:=
 Cells.rec (motive:=λH as rs zz=> ∀{i:Nat} {a:Addr},as[i]? =some a->∃o,(a,o)∈rs) (λe=>nomatch e) (λy zz ih i=>by
  cases i using bL with
  | zero=>exact λe=>ae e ▸y.hd.imp λzz h=>cT _ h
  | succ i=>exact λe=>(ih (i:=i) e).imp λzz h=>bB _ h) s
def Cells.nodup{W:Wd}{B:BgT}{ρ:List Addr}{H as rs}(s:Cells W B ρ H as rs):(rs.map (·.1)).Nodup->as.Nodup:=
 Cells.rec (motive:=λH as rs zz=>(rs.map (·.1)).Nodup->as.Nodup) (λzz=> .nil) (fun{c a r H as rs} y s ih nd=>by
  have n:=fb.mp (bp ▸nd);refine bR.mpr ⟨λq=>?_,ih n.2.1⟩;have⟨i,e⟩:=List.mem_iff_getElem?.mp q;have⟨o,h⟩:=s.at e;have⟨o',h'⟩:=y.hd;exact n.2.2 a (jF h') a (jF h) rfl) s
def Cells.split{W:Wd}{B:BgT}{ρ:List Addr}{H as rs}(s:Cells W B ρ H as rs):∀{k:Nat} {c:Cell},H[k]? =some c->
  ∃a r r1 r2,as[k]? =some a/\rs=r1++(r++r2)/\CellR W B ρ c a r/\∀c' r',CellR W B ρ c' a r'->Cells W B ρ (H.set k c') as (r1++(r'++r2)):=
 Cells.rec (motive:=λH as rs zz=> ∀{k:Nat} {c:Cell},H[k]? =some c->∃a r r1 r2,as[k]? =some a/\rs=r1++(r++r2)/\CellR W B ρ c a r/\∀c' r',CellR W B ρ c' a r'->Cells W B ρ (H.set k c') as (r1++(r'++r2)))
  (λe=>nomatch e) (fun{c a r H as rs} x s ih k=>by
  cases k using bL with
  | zero=>exact λe=>⟨a,r,[],rs,rfl,rfl,ae e ▸x,λc' r' y=>show Cells W B ρ (c'::H) (a::as) (r'++rs)from .cons y s⟩
  | succ k=>exact λe=>w2 (ih (k:=k) e) λb q r1 r2 e1 e2 e3 e4=>⟨b,q,r++r1,r2,e1,(congrArg (r++·) e2).trans (aA ..).symm,e3,λc' r' y=>(aA ..).symm ▸.cons x (e4 c' r' y)⟩) s
structure St(B:BgT)(F rs:Raws)(h:Heap):Prop where
 keep:∀b o,B b=some o->h.get? b=some o
 frm:∀p∈F,h.get? p.1=some p.2/\B p.1=none
 got:∀p∈rs,h.get? p.1=some p.2/\B p.1=none/\p.1∉F.map (·.1)
 nod:(rs.map (·.1)).Nodup
 nodF:(F.map (·.1)).Nodup
abbrev RM(W:Wd)(B:BgT)(ρ:List Addr)(F:Raws)(H:Hp)(h:Heap):Prop:= ∃rs,St B F rs h/\Cells W B ρ H ρ rs
def Lk{p:Addr×Obj}(hp:p∈l):p.1∈l.map (·.1):=jF hp
def qG{p:Addr×Obj}{a:Addr}(hp:p∈l)(q:p.1=a):a∈l.map (·.1):=q ▸Lk hp
def St.ext{B:BgT}{F rs:Raws}{h:Heap}(S:St B F rs h)(k:∀b o,h.get? b=some o->h'.get? b=some o):St B F rs h':=
 ⟨λb o e=>k b o (S.keep b o e),λp hp=>⟨k _ _ (S.frm p hp).1,(S.frm p hp).2⟩,λp hp=>⟨k _ _ (S.got p hp).1,(S.got p hp).2⟩,S.nod,S.nodF⟩
def St.free{B:BgT}{F rs:Raws}{h:Heap}(S:St B F rs h){a:Addr}(ha:h.get? a=none):B a=none/\a∉F.map (·.1)/\a∉rs.map (·.1):=by
 refine eC ?_ (λq=>?_) (λq=>?_)
 ·cases e:B a with
  | none=>rfl
  | some o=>rw[S.keep a o e]at ha;cases ha
 ·refine aL (cM.mp q) λp hp xq4=>?_;subst xq4;rw[(S.frm p hp).1]at ha;cases ha
 ·refine aL (cM.mp q) λp hp xq5=>?_;subst xq5;rw[(S.got p hp).1]at ha;cases ha
def St.allocD{B:BgT}{F rs:Raws}{h:Heap}(S:St B F rs h){a:Addr}{o:Obj}(ha:h.get? a=none)(k:∀b x,h.get? b=some x->h'.get? b=some x)(e:h'.get? a=some o):St (B.put a o) F rs h':=by
 refine kE (S.free ha) λn1 n2 n3=>?_;refine⟨λb x q=>?_,λp hp=>⟨k _ _ (S.frm p hp).1,?_⟩,λp hp=>(eC (k _ _ (S.got p hp).1) ?_ ((S.got p hp).2.2)),S.nod,S.nodF⟩
 ·unfold BgT.put at q
  split at q
  ·rename_i z;subst z;erw [e];exact q
  ·exact k _ _ (S.keep b x q)
 ·erw [(vO λq=>n2 (qG hp q))];exact(S.frm p hp).2
 ·erw [(vO λq=>n3 (qG hp q))];exact(S.got p hp).2.1
def St.allocM{B:BgT}{F rs:Raws}{h:Heap}(S:St B F rs h){a:Addr}{o:Obj}(ha:h.get? a=none)(k:∀b x,h.get? b=some x->h'.get? b=some x)(e:h'.get? a=some o):St B F (rs++ [(a,o)]) h':=by
 refine kE (S.free ha) λn1 n2 n3=>?_;refine⟨λb x q=>k _ _ (S.keep b x q),λp hp=>⟨k _ _ (S.frm p hp).1,(S.frm p hp).2⟩,λp hp=>?_,?_,S.nodF⟩
 ·rcases dy.mp hp with hp | hp
  ·exact⟨k _ _ (S.got p hp).1,(S.got p hp).2⟩
  ·cases fD.mp hp;exact eC e n1 n2
 ·erw [bp]
  exact fb.mpr ⟨S.nod,by simp,λx hx y hy q=>by cases fD.mp hy;subst q;exact n3 hx⟩
def St.allocF{B:BgT}{F rs:Raws}{h:Heap}(S:St B F rs h){a:Addr}{o:Obj}(ha:h.get? a=none)(k:∀b x,h.get? b=some x->h'.get? b=some x)(e:h'.get? a=some o):St B ((a,o)::F) rs h':=by
 refine kE (S.free ha) λn1 n2 n3=>?_;refine⟨λb x q=>k _ _ (S.keep b x q),λp hp=>?_,λp hp=>(eC (k _ _ (S.got p hp).1) ((S.got p hp).2.1) ?_),S.nod,bR.mpr ⟨n2,S.nodF⟩⟩
 ·rcases aQ.mp hp with rfl | hp
  ·exact⟨e,n1⟩
  ·exact⟨k _ _ (S.frm p hp).1,(S.frm p hp).2⟩
 ·erw [bk];rewrite [aQ,not_or]
  exact⟨λq=>n3 (qG hp q),(S.got p hp).2.2⟩
def St.upd{B:BgT}{F r1 r2:Raws}{h:Heap}{d:Addr}{o:Obj}(S:St B F (r1++(d,o)::r2) h)(k:fe d h h')(e:h'.get? d=some o'):St B F (r1++(d,o')::r2) h':=by
 have hd:=S.got (d,o) (by simp);have nd:=S.nod;rw[bp,bk]at nd;have nd1:∀p∈r1,p.1≠d:=λp hp q=>(fb.mp nd).2.2 p.1 (Lk hp) d (.head _) q;have nd2:∀p∈r2,p.1≠d:=λp hp q=>(bR.mp (fb.mp nd).2.1).1 (qG hp q);refine⟨λb x q=>?_,λp hp=>⟨?_,(S.frm p hp).2⟩,λp hp=>?_,?_,S.nodF⟩
 ·exact(k.2 b (λz=>by rw[z,hd.2.1]at q;cases q)).trans (S.keep b x q)
 ·exact(k.2 p.1 (λz=>hd.2.2 (qG hp z))).trans (S.frm p hp).1
 ·rcases dy.mp hp with q | q
  ·have:=S.got p (cT _ q);exact⟨(k.2 p.1 (nd1 p q)).trans this.1,this.2⟩
  ·rcases aQ.mp q with rfl | q
   ·exact⟨e,hd.2⟩
   ·have:=S.got p (bB _ (.tail _ q));exact⟨(k.2 p.1 (nd2 p q)).trans this.1,this.2⟩
 ·erw [bp,bk];exact nd
def St.updF{B:BgT}{F2 rs:Raws}{h:Heap}{L:Addr}{o:Obj}(S:St B (F1++(L,o)::F2) rs h)(k:fe L h h')(e:h'.get? L=some o'):St B (F1++(L,o')::F2) rs h':=by
 have hL:=S.frm (L,o) (by simp);have nd:=S.nodF;rw[bp,bk]at nd;have nd1:∀p∈F1,p.1≠L:=λp hp q=>(fb.mp nd).2.2 p.1 (Lk hp) L (.head _) q;have nd2:∀p∈F2,p.1≠L:=λp hp q=>(bR.mp (fb.mp nd).2.1).1 (qG hp q);refine⟨λb x q=>(k.2 b (λz=>by rw[z,hL.2]at q;cases q)).trans (S.keep b x q),λp hp=>?_,λp hp=>?_,S.nod,?_⟩
 ·rcases dy.mp hp with q | q
  ·have:=S.frm p (cT _ q);exact⟨(k.2 p.1 (nd1 p q)).trans this.1,this.2⟩
  ·rcases aQ.mp q with rfl | q
   ·exact⟨e,hL.2⟩
   ·have:=S.frm p (bB _ (.tail _ q));exact⟨(k.2 p.1 (nd2 p q)).trans this.1,this.2⟩
 ·have:=S.got p hp;have hm:(F1++(L,o')::F2).map (·.1)=(F1++(L,o)::F2).map (·.1):=by simp
  refine eC ((k.2 p.1 (λz=>this.2.2 (by erw [z];simp))).trans this.1) this.2.1 (λq=>this.2.2 (hm ▸q))
 ·erw [bp,bk];exact nd
def St.uniq{B:BgT}{F rs:Raws}{h:Heap}(S:St B F rs h){a:Addr}{o:Obj}(x:(a,o)∈F)(y:(a,o')∈F):o=o':=by
 have e1:=(S.frm _ x).1;have e2:=(S.frm _ y).1
 try dsimp only at e1 e2
 rw[e1]at e2;exact ae e2
def St.dropF{B:BgT}{F2 rs:Raws}{h:Heap}(S:St B (F1++F2) rs h):St B F2 rs h:=
 ⟨S.keep,λp hp=>S.frm p (bB _ hp),λp hp=>(eC ((S.got p hp).1) ((S.got p hp).2.1) (λq=>(S.got p hp).2.2 (by erw [bp];exact bB _ q))),S.nod,by have:=S.nodF;rw[bp]at this;exact(fb.mp this).2.1⟩
end
section
mutual
variable{a:Addr}{k c:Nat}{vs:List AV}{o:Obj}{ks:List (List Nat×AV)}{fs:List (Nat×AV)}
variable{W:Wd}{B:BgT}{ρ:List Addr}{F:Raws}{H:Hp}{h h':Heap}
def RM.ext(S:RM W B ρ F H h)(k:∀b o,h.get? b=some o->h'.get? b=some o):RM W B ρ F H h':=aL S λrs s c=>⟨rs,s.ext k,c⟩
def RM.len(S:RM W B ρ F H h):ρ.length=H.length:=aL S λrs s c=>c.length
def RM.keep(S:RM W B ρ F H h):∀b o,B b=some o->h.get? b=some o:=aL S λrs s c=>s.keep
def RM.frm(S:RM W B ρ F H h):∀p∈F,h.get? p.1=some p.2:=aL S λrs s c=>λp hp=>(s.frm p hp).1
def RM.allocD(R:RM W B ρ F H h)(ha:h.get? a=none)(k:∀b x,h.get? b=some x->h'.get? b=some x)(e:h'.get? a=some o):Grow B ρ (B.put a o) ρ/\RM W (B.put a o) ρ F H h':=by
 refine aL R λrs S C=>?_;have b:Grow B ρ (B.put a o) ρ:= .ofB ρ (.put (S.free ha).1);exact⟨b,rs,S.allocD ha k e,C.mono b⟩
def RM.allocF(R:RM W B ρ F H h)(ha:h.get? a=none)(k:∀b x,h.get? b=some x->h'.get? b=some x)(e:h'.get? a=some o):RM W B ρ ((a,o)::F) H h':=by
 refine aL R λrs S C=>?_;exact bH rs (S.allocF ha k e) C
def RM.dropF{F1:Raws}(R:RM W B ρ (F1++F) H h):RM W B ρ F H h:=aL R λrs S C=>⟨rs,S.dropF,C⟩
def RM.pushD(R:RM W B ρ F H h)(o:Obj)(hf:o.isFreed=false:=by rfl):Grow B ρ (B.put h.objs.size o) ρ/\RM W (B.put h.objs.size o) ρ F H (h.push o):=
 R.allocD (bP (aw _)) (λzz zy e=>cG _ e) (dD _ hf)
def RM.newCell(R:RM W B ρ F H h){c:Cell}{r:Raws}(x:CellR W B (ρ++ [a]) c a r)(st:∀rs,St B F rs h->St B F (rs++r) h'):Grow B ρ B (ρ++ [a])/\RM W B (ρ++ [a]) F (H++ [c]) h':=by
 refine aL R λrs S C=>?_;exact⟨.push B ρ a,_,st rs S,Cells.snoc x (C.mono (.push B ρ a))⟩
def RM.newList(R:RM W B ρ F H h){its:List Value}(hv:VRs W B ρ vs its):RM W B (ρ++ [h.objs.size]) F (H++ [.list vs]) (h.push {cls:= .type "list",data:= .seq its.toArray}):=
 (R.newCell (.list (n:=0) (hv.mono (.push B ρ _))) λrs S=>S.allocM (bP (aw _)) (λzz zy e=>cG _ e) (dD _ rfl)).2
def RM.newDict(R:RM W B ρ F H h):RM W B (ρ++ [h.objs.size]) F (H++ [.dict []]) (h.push {cls:= .type "dict",data:= .dict #[]}):=
 (R.newCell (.dict (kvs:= []) ⟨#[],0,(eC rfl rfl rfl),rfl,by intro e h;simp at h,Pairs.nil,List.nodup_nil⟩ .nil) λrs S=>S.allocM (bP (aw _)) (λzz zy e=>cG _ e) (dD _ rfl)).2
def RM.listAt(R:RM W B ρ F H h)(e:H[k]? =some (.list vs)):
  ∃a its n,ρ[k]? =some a/\h.get? a=some (listOf its.toArray n)/\VRs W B ρ vs its/\B a=none/\
   ∀h' vs' its' n',fe a h h'->h'.get? a=some (listOf its'.toArray n')->VRs W B ρ vs' its'->RM W B ρ F (H.set k (.list vs')) h':=by
 refine aL R λrs S C=>?_;refine w2 (C.split e) λa r r1 r2 e1 e2 c g=>?_;refine gy (c.inv) λits n e3 v=>?_;have S:St B F (r1++(a,listOf its.toArray n)::r2) h:=(e2.trans (congrArg (λr=>r1++(r++r2)) e3)) ▸S;have hg:=S.got _ (bB r1 (.head r2));exact iR a its n e1 hg.1 v hg.2.1 (λh' vs' its' n' k e' v'=>(bH _ (S.upd k e') (g _ [_] (.list v'))))
def RM.dictAt(R:RM W B ρ F H h)(e:H[k]? =some (.dict ks)):
  ∃a o kvs,ρ[k]? =some a/\h.get? a=some o/\o.IsDictOf (strKind W.prog W.w) kvs/\DEnt W B ρ ks kvs/\B a=none/\
   ∀h' ks' o' kvs',fe a h h'->h'.get? a=some o'->o'.IsDictOf (strKind W.prog W.w) kvs'->DEnt W B ρ ks' kvs'->RM W B ρ F (H.set k (.dict ks')) h':=by
 refine aL R λrs S C=>?_;refine w2 (C.split e) λa r r1 r2 e1 e2 c g=>?_;refine dX (c.inv) λo kvs e3 i v=>?_;have S:St B F (r1++(a,o)::r2) h:=(e2.trans (congrArg (λr=>r1++(r++r2)) e3)) ▸S;have hg:=S.got _ (bB r1 (.head r2));exact LB a o kvs e1 hg.1 i v hg.2.1 (λh' ks' o' kvs' k e' i' v'=>(bH _ (S.upd k e') (g _ [_] (.dict i' v'))))
def RM.instAt(R:RM W B ρ F H h)(e:H[k]? =some (.n c fs)):
  ∃a dx C es n,ρ[k]? =some a/\W.cat c=some C/\h.get? a=some (instObj C dx)/\h.get? dx=some (dictOf es n)/\EntAre W B ρ fs es/\B a=none/\
   ∀h' fs' es' n',fe dx h h'->h'.get? dx=some (dictOf es' n')->EntAre W B ρ fs' es'->RM W B ρ F (H.set k (.n c fs')) h':=by
 refine aL R λrs S CC=>?_;refine w2 (CC.split e) λa r r1 r2 e1 e2 cc g=>?_;refine w3 (cc.inv) λdx C es n e3 hc v=>?_;have S:St B F (r1++(a,instObj C dx)::(dx,dictOf es n)::r2) h:=(e2.trans (congrArg (λr=>r1++(r++r2)) e3)) ▸S;have S2:St B F ((r1++ [(a,instObj C dx)])++(dx,dictOf es n)::r2) h:=(aA r1 [(a,instObj C dx)] _).symm ▸S;have hg:=S.got _ (bB r1 (.head _));exact EV a dx C es n e1 hc hg.1 ((S2.got _ (bB _ (.head _))).1) v hg.2.1 (λh' fs' es' n' k e' v'=>
  ⟨_,S2.upd k e',(aA r1 [(a,instObj C dx)] _).symm ▸g _ [(a,instObj C dx),(dx,dictOf es' n')] (.n hc v')⟩)
def RM.listA(R:RM W B ρ F H h)(ha:ρ[k]? =some a)(e:H[k]? =some (.list vs)):
  ∃its n,h.get? a=some (listOf its.toArray n)/\VRs W B ρ vs its/\B a=none/\
   ∀h' vs' its' n',fe a h h'->h'.get? a=some (listOf its'.toArray n')->VRs W B ρ vs' its'->RM W B ρ F (H.set k (.list vs')) h':=by
 refine vo (R.listAt e) λa' its n e1 r=>?_
 erw [ae (ha.symm.trans e1)]
 exact ug its n r
def RM.dictA(R:RM W B ρ F H h)(ha:ρ[k]? =some a)(e:H[k]? =some (.dict ks)):
  ∃o kvs,h.get? a=some o/\o.IsDictOf (strKind W.prog W.w) kvs/\DEnt W B ρ ks kvs/\B a=none/\
   ∀h' ks' o' kvs',fe a h h'->h'.get? a=some o'->o'.IsDictOf (strKind W.prog W.w) kvs'->DEnt W B ρ ks' kvs'->RM W B ρ F (H.set k (.dict ks')) h':=by
 refine vo (R.dictAt e) λa' o kvs e1 r=>?_
 erw [ae (ha.symm.trans e1)]
 exact ug o kvs r
def RM.instA(R:RM W B ρ F H h)(ha:ρ[k]? =some a)(e:H[k]? =some (.n c fs)):
  ∃dx C es n,W.cat c=some C/\h.get? a=some (instObj C dx)/\h.get? dx=some (dictOf es n)/\EntAre W B ρ fs es/\B a=none/\
   ∀h' fs' es' n',fe dx h h'->h'.get? dx=some (dictOf es' n')->EntAre W B ρ fs' es'->RM W B ρ F (H.set k (.n c fs')) h':=by
 refine P7 (R.instAt e) λa' dx C es n e1 r=>?_
 erw [ae (ha.symm.trans e1)]
 exact QG dx C es n r
def RM.inj(R:RM W B ρ F H h){i j:Nat}(x:ρ[i]? =some a)(y:ρ[j]? =some a):i=j:=
 aL R λzz S C=>(List.getElem?_inj (aT.mp x).1 (C.nodup S.nod)).mp (x.trans y.symm)
end
end
mutual
structure Rest(s s':Shared):Prop where
 gens:s'.gens=s.gens
 drawn:s'.drawn=s.drawn
 os:s'.os=s.os
def Rest.refl(s:Shared):Rest s s:=⟨rfl,rfl,rfl⟩
def Rest.trans{s s' s'':Shared}(x:Rest s s')(y:Rest s' s''):Rest s s'':=⟨y.1.trans x.1,y.2.trans x.2,y.3.trans x.3⟩
structure AOk(A:Around)(d:Nat):Prop where
 handled:A.handled=none
 depth:A.depth+2*d<=960
 units:A.units+16*d<=9000
abbrev gu(W:Wd)(B:BgT):Prop:= ∀b o,W.base.get? b=some o->B b=some o
def gu.mono{W:Wd}{B B':BgT}(h:gu W B)(k:Gh B B'):gu W B':=λb o e=>k b o (h b o e)
def RM.base{W:Wd}{B:BgT}{ρ:List Addr}{F:Raws}{H:Hp}{h:Heap}(hB:gu W B)(R:RM W B ρ F H h):∀b o,W.base.get? b=some o->h.get? b=some o:=λb o e=>R.keep b o (hB b o e)
abbrev vn(o:Obj)(m:Str->Option Value):Prop:= ∃es ep,o.data= .dict es ep/\StrKeys es/\∀name,nsFind es name=m name
structure EnvOk(cx:CX)(env:Env):Prop where
 scope:env.scope=cx.scope
 globals:env.globals=mainGlobals
 builtins:env.builtins=builtinsNs
 kind:cx.scope.kind= .function
 cells:∀x,cx.scope.names.lookup x=some .cell->∃c,env.cells.lookup x=some c
structure CXOk(W:Wd)(cx:CX):Prop where
 glob:cx.glob=W.glob
 nm:cx.nm=W.nm
 inj:∀x y i,cx.slots.lookup x=some i->cx.slots.lookup y=some i->x=y
 lt:∀x i,cx.slots.lookup x=some i->i<cx.nxt
abbrev uo(F:Raws)(env:Env)(m:Str->Option Value)(x:Str)(v:Option Value):Prop:=
 (env.kindOf x=some .local/\m x=v)\/((env.kindOf x=some .cell\/env.kindOf x=some .free)/\∃c o,env.cells.lookup x=some c/\(c,o)∈F/\o.data= .cell v)
abbrev o9(W:Wd)(B:BgT)(ρ:List Addr)(F:Raws)(env:Env)(cx:CX)(ls:Ls):Prop:=
 ∃o m,(env.locals,o)∈F/\vn o m/\∀x i av,cx.slots.lookup x=some i->ls[i]? =some (some av)->∃u,uo F env m x (some u)/\VR W B ρ av u
abbrev jY(W:Wd)(B:BgT)(ρ:List Addr)(fr:Raws)(env:Env)(cx:CX)(ls:Ls):Prop:=
 ∃o m,(env.locals,o)∈fr/\vn o m/\(∀(x y:Str) (c:Addr),env.cells.lookup x=some c->env.cells.lookup y=some c->x=y)/\
  (∀x,env.kindOf x≠some .free)/\∀x i,cx.slots.lookup x=some i->∃v,uo fr env m x v/\∀av,ls[i]? =some (some av)->∃u,v=some u/\VR W B ρ av u
end
section
mutual
variable{F':Raws}
variable{W:Wd}{B B':BgT}{ρ ρ':List Addr}{F:Raws}{env:Env}{cx:CX}{ls:Ls}
def o9.mono(g:Grow B ρ B' ρ')(h:o9 W B ρ F env cx ls):o9 W B' ρ' F env cx ls:=
 dX h λo m a b c=>
 (i5 o m a b (λx i av e1 e2=>aL (c x i av e1 e2) λu p q=>⟨u,p,q.mono g⟩))
def jY.mono(g:Grow B ρ B' ρ')(h:jY W B ρ F env cx ls):jY W B' ρ' F env cx ls:=
 ua h λo m a b c d e=>
 (CE o m a b c d (λx i e1=>aL (e x i e1) λv p q=>⟨v,p,λav e2=>aL (q av e2) λu y z=>⟨u,y,z.mono g⟩⟩))
def uo.sub{m:Str->Option Value}{x:Str}{v:Option Value}(h:∀p∈F,p∈F')(l:uo F env m x v):uo F' env m x v:=
 l.imp id fun⟨k,c,o,a,b,e⟩=>⟨k,c,o,a,h _ b,e⟩
def o9.sub(h:∀p∈F,p∈F')(f:o9 W B ρ F env cx ls):o9 W B ρ F' env cx ls:=
 dX f λo m a b c=>
 (i5 o m (h _ a) b (λx i av e1 e2=>aL (c x i av e1 e2) λu p q=>⟨u,p.sub h,q⟩))
def jY.frm{fr:Raws}(h:jY W B ρ fr env cx ls):o9 W B ρ (fr++F) env cx ls:=
 ua h λo m a b c d e=>
 ⟨o,m,cT _ a,b,λx i av e1 e2=>aL (e x i e1) λv p q=>aL (q av e2) λu y z=>⟨u,y ▸p.sub λzz=>cT _,z⟩⟩
end
end
mutual
abbrev PV(W:Wd)(B:BgT)(ρ:List Addr)(F:Raws)(s:Shared)(v:AV)(H':Hp)(u:Value)(s':Shared):Prop:=
 ∃B' ρ',Grow B ρ B' ρ'/\RM W B' ρ' F H' s'.heap/\Rest s s'/\VR W B' ρ' v u
abbrev Ux(W:Wd)(B:BgT)(ρ:List Addr)(F:Raws)(s:Shared)(v:List AV)(H':Hp)(u:List Value)(s':Shared):Prop:=
 ∃B' ρ',Grow B ρ B' ρ'/\RM W B' ρ' F H' s'.heap/\Rest s s'/\VRs W B' ρ' v u
abbrev PB(W:Wd)(B:BgT)(ρ:List Addr)(F:Raws)(s:Shared)(b:Bool)(H':Hp)(u:Bool)(s':Shared):Prop:=
 ∃B' ρ',Grow B ρ B' ρ'/\RM W B' ρ' F H' s'.heap/\Rest s s'/\u=b
abbrev PU(W:Wd)(B:BgT)(ρ:List Addr)(F:Raws)(s:Shared)(H':Hp)(u:Unit)(s':Shared):Prop:=
 ∃B' ρ',Grow B ρ B' ρ'/\RM W B' ρ' F H' s'.heap/\Rest s s'
abbrev fh:Value->Shared->Prop:=λzz zy=>False
abbrev Tx(W:Wd)(d:Nat)(cx:CX)(ls:Ls)(H:Hp){α:Type}(t:Env->Sem α)(P:BgT->List Addr->Raws->Shared->α->Shared->Prop):Prop:=
 ∀(A:Around) (B:BgT) (ρ:List Addr) (F:Raws) (env:Env) (s:Shared),AOk A d->gu W B->EnvOk cx env->o9 W B ρ F env cx ls->RM W B ρ F H s.heap->
  wpAny W.M A (t env) (P B ρ F s) fh s
noncomputable abbrev TE(W:Wd)(d:Nat)(cx:CX)(ls:Ls)(H:Hp)(e:Expr)(v:AV)(H':Hp):Prop:=Tx W d cx ls H (eval e) λB ρ F s=>PV W B ρ F s v H'
noncomputable abbrev TB(W:Wd)(d:Nat)(cx:CX)(ls:Ls)(H:Hp)(e:Expr)(b:Bool)(H':Hp):Prop:=Tx W d cx ls H (λenv=>isTrue e env (eval e env)) λB ρ F s=>PB W B ρ F s b H'
abbrev TL(W:Wd)(d:Nat)(cx:CX)(ls:Ls)(H:Hp)(es:List Expr)(vs:List AV)(H':Hp):Prop:=
 ∀pos:Pos,Tx W d cx ls H (λenv=>spliced (backTo pos (fS es env))) λB ρ F s=>Ux W B ρ F s vs H'
abbrev M8(W:Wd)(d:Nat)(H:Hp)(x:AV){α:Type}(t:Value->Sem α)(P:BgT->List Addr->Raws->Shared->α->Shared->Prop):Prop:=
 ∀(A:Around) (B:BgT) (ρ:List Addr) (F:Raws) (s:Shared) (u:Value),AOk A d->gu W B->RM W B ρ F H s.heap->VR W B ρ x u->wpAny W.M A (t u) (P B ρ F s) fh s
abbrev r8(W:Wd)(d:Nat)(H:Hp)(x y:AV)(t:Value->Value->Sem Value)(v:AV)(H':Hp):Prop:=
 ∀(A:Around) (B:BgT) (ρ:List Addr) (F:Raws) (s:Shared) (a b:Value),AOk A d->gu W B->RM W B ρ F H s.heap->VR W B ρ x a->VR W B ρ y b->wpAny W.M A (t a b) (PV W B ρ F s v H') fh s
abbrev Ge(W:Wd)(d:Nat)(H:Hp)(xs:List AV)(t:List Value->Sem Value)(v:AV)(H':Hp):Prop:=
 ∀(A:Around) (B:BgT) (ρ:List Addr) (F:Raws) (s:Shared) (us:List Value),AOk A d->gu W B->RM W B ρ F H s.heap->VRs W B ρ xs us->wpAny W.M A (t us) (PV W B ρ F s v H') fh s
end
section
mutual
variable{s bz s':Shared}{F:Raws}{B bZ:BgT}{A:Around}{ρ br:List Addr}{env:Env}{k i:Nat}{Q:Value->Shared->Prop}{e:Expr}{b:Bool}{m:Str->Option Value}
variable{W:Wd}{d:Nat}{cx:CX}{ls:Ls}{H aq aO dK H':Hp}
def PV.glue{v:AV}{u:Value}(g:Grow B ρ bZ br)(r:Rest s bz)(h:PV W bZ br F bz v H' u s'):PV W B ρ F s v H' u s':=
 fy h λB' ρ' a b c e=>⟨B',ρ',g.trans a,b,r.trans c,e⟩
def PB.glue{v:Bool}{u:Bool}(g:Grow B ρ bZ br)(r:Rest s bz)(h:PB W bZ br F bz v H' u s'):PB W B ρ F s v H' u s':=
 fy h λB' ρ' a b c e=>⟨B',ρ',g.trans a,b,r.trans c,e⟩
def lu{α:Type}{t:Sem α}{P:α->Shared->Prop}{Q:α->Shared->Prop}(h:wpAny W.M A t P fh s)(k:∀u s',P u s'->Q u s'):wpAny W.M A t Q fh s:=dN h k λzz zy e=>e
def TE.go{v:AV}(h:TE W d cx ls H e v H')(hA:AOk A d)(hB:gu W B)(hE:EnvOk cx env)(hF:o9 W B ρ F env cx ls)(hR:RM W B ρ F H s.heap)
  (k:∀B' ρ' u s',Grow B ρ B' ρ'->gu W B'->o9 W B' ρ' F env cx ls->RM W B' ρ' F H' s'.heap->Rest s s'->VR W B' ρ' v u->Q u s'):wpAny W.M A (eval e env) Q fh s:=
 dN (h A B ρ F env s hA hB hE hF hR) (λu s' xq1=>fy xq1 λB' ρ' g R r z=>k B' ρ' u s' g (hB.mono g.b) (hF.mono g) R r z) λzz zy e=>e
def TL.go{es:List Expr}{vs:List AV}(h:TL W d cx ls H es vs H'){pos:Pos}{Q:List Value->Shared->Prop}(hA:AOk A d)(hB:gu W B)(hE:EnvOk cx env)(hF:o9 W B ρ F env cx ls)(hR:RM W B ρ F H s.heap)
  (k:∀B' ρ' u s',Grow B ρ B' ρ'->gu W B'->o9 W B' ρ' F env cx ls->RM W B' ρ' F H' s'.heap->Rest s s'->VRs W B' ρ' vs u->Q u s'):wpAny W.M A (spliced (backTo pos (fS es env))) Q fh s:=
 dN (h pos A B ρ F env s hA hB hE hF hR) (λu s' xq2=>fy xq2 λB' ρ' g R r z=>k B' ρ' u s' g (hB.mono g.b) (hF.mono g) R r z) λzz zy e=>e
def TB.go(h:TB W d cx ls H e b H'){Q:Bool->Shared->Prop}(hA:AOk A d)(hB:gu W B)(hE:EnvOk cx env)(hF:o9 W B ρ F env cx ls)(hR:RM W B ρ F H s.heap)
  (k:∀B' ρ' s',Grow B ρ B' ρ'->gu W B'->o9 W B' ρ' F env cx ls->RM W B' ρ' F H' s'.heap->Rest s s'->Q b s'):wpAny W.M A (isTrue e env (eval e env)) Q fh s:=
 dN (h A B ρ F env s hA hB hE hF hR) (λu s' xq3=>fy xq3 λB' ρ' g R r z=>by subst z;exact k B' ρ' s' g (hB.mono g.b) (hF.mono g) R r) λzz zy e=>e
def St.ns{rs:Raws}{h:Heap}{L:Addr}{o:Obj}(S:St B F rs h)(hL:(L,o)∈F)(N:vn o m):h.Ns L m:=
 dX N λes ep e1 e2 e3=>
 (pR o es ep ((S.frm _ hL).1) e1 e2 e3)
def uo.load{x:Str}{v:Value}{E:Value->Shared->Prop}(hk:env.scope.kind= .function)(hp:(x==("__classdict__":Str))=false)
  (hL:s.heap.Ns env.locals m)(hfr:∀p∈F,s.heap.get? p.1=some p.2)(l:uo F env m x (some v))(h:Q v s):wpAny W.M A (loadName env x) Q E s:=by
 rcases l with⟨k,e⟩ | ⟨k | k,c,o,hc,hm,hd⟩
 ·exact wpAny_loadName_local hk k hL e h
 ·exact wpAny_loadName_cell hk k hc (bH o (hfr _ hm) hd) h
 ·exact wpAny_loadName_free hk k hc (bH o (hfr _ hm) hd) h hp
def kL{x:Str}(h:Ei x=false):(x==("__debug__":Str))=false/\(x==("__classdict__":Str))=false/\x≠("__name__":Str):=by
 have e1:Fk=("__debug__":Str):=by decide+kernel
 have e2:tN=("__classdict__":Str):=by decide+kernel
 have e3:Jw=("__name__":Str):=by decide+kernel
 unfold Ei at h;rw[eO,eO,e1,e2,e3]at h;exact eC h.1.1 h.1.2 (by simpa using h.2)
def jo{x:Str}(h:cx.slot x=some i):Ei x=false/\cx.slots.lookup x=some i:=by
 unfold CX.slot at h
 split at h
 ·cases h
 ·rename_i q
  refine⟨by simpa using q,?_⟩
  split at h <;> first | exact h | cases h
def Mu{x:Str}{pos:Pos}{v:AV}(hx':cx.slot x=some i)(hv:ls[i]? =some (some v)):TE W d cx ls H (.Name x pos) v H:=by
 intro A B ρ F env s hA hB hE hF hR;refine dX hF λo m hL N lo=>?_;obtain⟨ho,hx⟩:=jo hx';refine aL (lo x i v hx hv) λu l r=>?_;have pl:=kL ho;refine aL (id hR) λrs S C=>?_;exact wpAny_Name (l.load (by erw [hE.scope];exact hE.kind) pl.2.1 (S.ns hL N) (λp hp=>(S.frm p hp).1) (d0 B ρ (.refl B ρ) hR (.refl s) r)) pl.1
def IY{pos:Pos}:TE W d cx ls H (.Constant .none k pos) .none H:=λzz B ρ zy zx s zw zv zu zt hR=>wpAny_Constant_none (d0 B ρ (.refl B ρ) hR (.refl s) .none)
def I2{pos:Pos}:TE W d cx ls H (.Constant (.bool b) k pos) (.bool b) H:=λzz B ρ zy zx s zw zv zu zt hR=>wpAny_Constant_bool (d0 B ρ (.refl B ρ) hR (.refl s) .bool)
def My{i:Int}{pos:Pos}:TE W d cx ls H (.Constant (.int i) k pos) (.int i) H:=λzz B ρ zy zx s zw zv zu zt hR=>wpAny_Constant_int (d0 B ρ (.refl B ρ) hR (⟨rfl,rfl,rfl⟩) .int)
def gY(x:Str):aN x.cps.toList=x:=by induction x using Str.casesOn;rfl
def Mw{x:Str}{pos:Pos}:TE W d cx ls H (.Constant (.str x) k pos) (.str x.cps.toList) H:=λzz B ρ zy zx s zw zv zu zt hR=>
 wpAny_Constant_str ⟨B,ρ, .refl B ρ,hR,⟨rfl,rfl,rfl⟩,by have:=VR.str (W:=W) (B:=B) (ρ:=ρ) (s:=x.cps.toList) (t:=s.toks);rwa [gY]at this⟩
inductive Gl(W:Wd)(x:Str)(v:Value):Prop
 | own (h:nsIn W.K mainGlobals x=some (some v))
 | builtin (h:nsIn W.K mainGlobals x=some none) (hb:bootBuiltins x=some v) (hn:x≠"__name__")
structure Wd.Top(W:Wd):Prop where
 X:W.K.In W.base
 T:TopRead W.p W.loose W.mg W.mb W.base
def Wd.Top.K(ok:W.Top){h:Heap}(k:∀b o,W.base.get? b=some o->h.get? b=some o):W.K.In h:=ok.X.keeps k
def kx(W1:W.Top){x:Str}{pos:Pos}{v:Value}(hE:EnvOk cx env)(hd:(x==("__debug__":Str))=false)(hg:Gl W x v)(hs:cx.scope.names.lookup x=some .globalImplicit)
  (k:∀b o,W.base.get? b=some o->s.heap.get? b=some o)(z:Q v s):wpAny W.M A (eval (.Name x pos) env) Q fh s:=by
 obtain⟨hsc,hgl,hbt,hk,_⟩:=hE;have hs':env.kindOf x=some .globalImplicit:=by unfold Env.kindOf;erw [hsc];exact hs
 have hk':env.scope.kind= .function:=by erw [hsc];exact hk
 cases hg using Gl.casesOn with
 | own e=>exact Name_function_global hk' hs' (loadGlobal_global (hgl ▸W1.T.g.keeps k) (mg_of W1.X W1.T.g e) z) hd
 | builtin e hb hn=>exact Name_function_global hk' hs' (loadGlobal_builtin (hgl ▸W1.T.g.keeps k) (mg_none_of W1.X W1.T.g e) (hbt ▸W1.T.b.keeps k) ((W1.T.builtins x hn).trans hb) z) hd
end
end
mutual
def dR{e:Expr}(h:cu e=true)(es:List Expr)(env:Env):fS (e::es) env=(false,eval e env)::fS es env:=by
 induction e using bD <;> first | rfl | exact ll h
def vC{es:List Expr}(h:es.all cu=true)(pos:Pos)(env:Env):(backTo pos (fS es env)).any (·.1)=false:=by
 induction es with
 | nil=>rfl
 | cons e es ih=>
  have h:=ag.mp h;exact dR h.1 es env ▸ih h.2
def j7{o:Expr}(h:iU o=true)(attr:Str)(env:Env)(whole:Sem Value):attributeBase o attr env whole=whole:=by
 cases o using bD with
 | Call f a k p=>cases f using bD with
  | Name=>rcases a with _ | ⟨_,_⟩ <;> rcases k with _ | ⟨_,_⟩ <;> first | rfl | exact ll h
  | _=>rfl
 | _=>rfl
end
section
mutual
variable{h:Heap}{f:Value}{es:List Expr}
variable{M:Model}{A:Around}{E:Value->Shared->Prop}{s:Shared}{env:Env}
abbrev lO(M:Model)(h:Heap)(f:Value):Prop:=Looks M h (keeperOf f) .frame\/Looks M h (keeperOf f) .machine
def fT(id:String):lO M h (.builtin id):= .inr (Looks.of_pure rfl)
def oQ(id:String):lO M h (.type id):= .inr (Looks.of_pure rfl)
def wo{pos:Pos}(hs:es.all cu=true){Q:Args->Shared->Prop}
  (h:wpAny M A (spliced (backTo pos (fS es env))) (λvs bz=>Q ⟨vs,[]⟩ bz) E s):wpAny M A (evalArgs f true (backTo pos (fS es env)) []) Q E s:=by
 cases es using au with
 | nil=>exact aF (dN h (λvs bz i7=>aF (bJ (bW (aF (bJ (aF (bJ (bJ i7)))))))) λzz zy e=>e)
 | cons e es=>
  have e1:=dR (ag.mp hs).1 es env;generalize fS (e::es) env=l at e1 h |-
  subst e1;exact evalArgs_plain h
def fA{first:List Value}{pos apos:Pos}(hs:es.all cu=true){Q:Value->Shared->Prop}
  (h:wpAny M A (spliced (backTo apos (fS es env))) (λvs bz=>lO M bz.heap f/\wpAny M A (call f (first++vs) []) Q E bz) E s):
  wpAny M A (callWith pos f first (backTo apos (fS es env)) []) Q E s:=by
 unfold callWith;refine aF (bW (wo hs (dN h (λvs bz i7=>aF (d9 ?_)) λzz zy x=>x)));have hst:((backTo apos (fS es env)).any (·.1) || ([]:List (Option Str×Sem Value)).any (·.1.isNone))=false:=by rw[vC hs];rfl
 try dsimp only
 erw [hst]
 have tail:∀{t:Sem Value},wpAny M A t Q E bz->wpAny M A (t >>=λr=>holding [r] point >>=λzz=>pure r) Q E bz:=
  λht=>aF (dN ht (λr dQ hr=>aF (bW (wpAny_point (bJ hr)))) λzz zy x=>x);rcases i7.1 with k | k
 ·refine aF (k.here ?_)
  try dsimp only
  split
  ·exact tail i7.2
  ·exact tail (by unfold callMarked;exact Calls.wpAny_keep i7.2)
 ·refine aF (k.here ?_);exact tail i7.2
end
end
section
mutual
variable{x v y z:AV}{q:Bool}{e l b c r t o e':Expr}{es:List Expr}{ρ:List Addr}{B:BgT}{vs:List AV}{A:Around}{s:Shared}{u:Value}
variable{W:Wd}{d:Nat}{cx:CX}{ls:Ls}{H aq aO dK H':Hp}
def F4:TL W d cx ls H [] [] H:=λpos A B ρ F env s hA hB hE hF hR=>wpAny_items_nil (d0 B ρ (.refl B ρ) hR (.refl s) .nil)
def wD(he:cu e=true)(h:TE W d cx ls H e v aq)(h':TL W d cx ls aq es vs H'):TL W d cx ls H (e::es) (v::vs) H':=by
 intro pos A B ρ F env s hA hB hE hF hR;show wpAny W.M A (spliced (backTo pos (fS (e::es) env))) _ _ _;rw[dR he];refine spliced_cons (h.go hA hB hE hF hR λbZ br u bz cg dh cQ bX b9 dY=>h'.go hA dh hE cQ bX λfY d7 us dQ eD iJ jb eI fH gT=>?_);exact d0 fY d7 (cg.trans eD) eI (b9.trans fH) (.cons (dY.mono eD) gT)
def dZ:10000000<=ly:=aj (ab rfl) (iB sizeLine_eq.symm)
def rj{n:Nat}(h:n<=1000000):n<=ly:=aj h (aj (ab rfl) dZ)
def Mv{k:Nat}{pos:Pos}(h:TL W d cx ls H es vs H')(hl:vs.length<=1000000):TE W d cx ls H (.Tuple es k pos) (.U vs) H':=by
 intro A B ρ F env s hA hB hE hF hR;refine wpAny_Tuple (h.go hA hB hE hF hR λbZ br u bz cg dh cQ bX b9 dY=>?_);have z:=bX.pushD (y8 u.toArray 0);exact⟨rj (dY.length ▸hl),_,_,cg.trans z.1,z.2,b9.trans ⟨rfl,rfl,rfl⟩, .U kI ⟨rfl,_,rfl⟩ (dY.mono z.1)⟩
def Ba{a:Addr}(h:ρ.length=H.length):VR W B (ρ++ [a]) (.ref H.length) (.ref a):= .ref (h ▸List.getElem?_concat_length ..)
def I0{pos:Pos}(h:TL W d cx ls H es vs H')(hl:vs.length<=1000000):TE W d cx ls H (.List es pos) (.ref H'.length) (H'++ [.list vs]):=by
 intro A B ρ F env s hA hB hE hF hR;refine wpAny_List (h.go hA hB hE hF hR λbZ br u bz cg dh cQ bX b9 dY=>?_);exact⟨rj (dY.length ▸hl),_,_,cg.trans (.push bZ br _),bX.newList dY,b9.trans ⟨rfl,rfl,rfl⟩,Ba bX.len⟩
def F6{pos:Pos}:TE W d cx ls H (.Dict [] [] pos) (.ref H.length) (H++ [.dict []]):=λA B ρ F env s hA hB hE hF hR=>
 eval_Dict_empty pos ▸aF (d9 (wpAny_newObj_type (d0 _ _ (.push B ρ _) hR.newDict (⟨rfl,rfl,rfl⟩) (Ba hR.len))))
def MD{op:Operator}{pos:Pos}(h:TE W d cx ls H l x aq)(h':TE W d cx ls aq r y aO)(o:r8 W d aO x y (binaryOp op) v H'):TE W d cx ls H (.BinOp l op r pos) v H':=by
 intro A B ρ F env s hA hB hE hF hR;refine wpAny_BinOp (h.go hA hB hE hF hR λbZ br a bz cg dh cQ bX b9 dY=>h'.go hA dh hE cQ bX λfY d7 b dQ eD iJ jb eI fH gT=>?_);exact lu (o A fY d7 F dQ a b hA iJ eI (dY.mono eD) gT) λu s' z=>(z.glue eD fH).glue cg b9
def J0{op:UnaryOp}{pos:Pos}(h:TE W d cx ls H e x aq)(o:M8 W d aq x (unaryOp op) λB ρ F s=>PV W B ρ F s v H'):TE W d cx ls H (.UnaryOp op e pos) v H':=by
 intro A B ρ F env s hA hB hE hF hR;refine wpAny_UnaryOp (h.go hA hB hE hF hR λbZ br a bz cg dh cQ bX b9 dY=>?_);exact lu (o A bZ br F bz a hA dh bX dY) λu s' z=>z.glue cg b9
def MC{op:CmpOp}{pos:Pos}(h:TE W d cx ls H l x aq)(h':TE W d cx ls aq r y aO)(o:r8 W d aO x y (dI op) v H')(hm:cY op r=false):TE W d cx ls H (.Compare l [op] [r] pos) v H':=by
 intro A B ρ F env s hA hB hE hF hR;refine wpAny_Compare1 (h.go hA hB hE hF hR λbZ br a bz cg dh cQ bX b9 dY=>h'.go hA dh hE cQ bX λfY d7 b dQ eD iJ jb eI fH gT=>?_) hm;exact lu (o A fY d7 F dQ a b hA iJ eI (dY.mono eD) gT) λu s' z=>(z.glue eD fH).glue cg b9
def Mz{pos:Pos}(h:TB W d cx ls H t q aq)(h':TE W d cx ls aq (if q=true then b else o) v H'):TE W d cx ls H (.IfExp t b o pos) v H':=by
 intro A B ρ F env s hA hB hE hF hR;refine wpAny_IfExp (h.go hA hB hE hF hR λbZ br bz cg dh cQ bX b9=>?_)
 induction q using aE <;> exact h'.go hA dh hE cQ bX λfY d7 u dQ eD iJ jb eI fH gT=>(d0 fY d7 (cg.trans eD) eI (b9.trans fH) gT)
def MG{pos:Pos}{c:Bool}(h:TB W d cx ls H t q aq)(h':TB W d cx ls aq (if q=true then b else o) c H'):TB W d cx ls H (.IfExp t b o pos) c H':=by
 intro A B ρ F env s hA hB hE hF hR;refine isTrue_IfExp (h.go hA hB hE hF hR λbZ br bz cg dh cQ bX b9=>?_)
 induction q using aE <;> exact lu (h' A bZ br F env bz hA dh hE cQ bX) λzz zy z=>z.glue cg b9
noncomputable abbrev PX(W:Wd)(d:Nat)(H:Hp)(x:AV)(b:Bool):Prop:=M8 W d H x truthy λB ρ F s=>PB W B ρ F s b H
def sj{M:Model}{E:Value->Shared->Prop}{Q:Bool->Shared->Prop}(t:gW x=some q)(hv:VR W B ρ x u)(k:Q q s):wpAny M A (truthy u) Q E s:=by
 cases x using AV.casesOn with
 | bool b=>exact nY hv ▸wpAny_truthy_bool (ae t ▸k)
 | _=>exact dz t
def rT{M:Model}{E:Value->Shared->Prop}{P R:Shared->Prop}(t:gW x=some true)(hv:VR W B ρ x u)(k:P s):wpAny M A (truthy u) (λc s'=>if c=true then P s' else R s') E s:=sj (Q:=λc s'=>if c=true then P s' else R s') t hv k
def vr{M:Model}{E:Value->Shared->Prop}{P R:Shared->Prop}(t:gW x=some false)(hv:VR W B ρ x u)(k:R s):wpAny M A (truthy u) (λc s'=>if c=true then P s' else R s') E s:=sj (Q:=λc s'=>if c=true then P s' else R s') t hv k
def Dx{b:Bool}:PX W d H (.bool b) b:=λA B ρ F s u hA hB hR hv=>nY hv ▸wpAny_truthy_bool (d0 B ρ (.refl B ρ) hR (.refl s) rfl)
def Kn{b:Bool}(h:gW x=some b):PX W d H x b:=λA B ρ F s u hA hB hR hv=>sj h hv (d0 B ρ (.refl B ρ) hR (.refl s) rfl)
def MH{op:CmpOp}{pos:Pos}(h:TE W d cx ls H l x aq)(h':TE W d cx ls aq r y aO)(o:r8 W d aO x y (dI op) v H')(t:PX W d H' v q)(hm:cY op r=false):TB W d cx ls H (.Compare l [op] [r] pos) q H':=by
 intro A B ρ F env s hA hB hE hF hR;refine wpAny_isTrue_Compare1 (h.go hA hB hE hF hR λbZ br a bz cg dh cQ bX b9 dY=>h'.go hA dh hE cQ bX λfY d7 b dQ eD iJ jb eI fH gT=>?_) hm;refine lu (o A fY d7 F dQ a b hA iJ eI (dY.mono eD) gT) λu s' xq1=>fy xq1 λnX j0 iy jD lz qr=>?_;exact lu (t A nX j0 F s' u hA (iJ.mono iy.b) jD qr) λzz zy z=>((z.glue iy lz).glue eD fH).glue cg b9
def ME(h:TE W d cx ls H e v H')(t:PX W d H' v q)
  (he:∀env whole,isTrue e env whole=(do let v <- whole;standAt e.pos;holding [v] (truthy v))):TB W d cx ls H e q H':=by
 intro A B ρ F env s hA hB hE hF hR;refine wpAny_isTrue_value (h.go hA hB hE hF hR λbZ br a bz cg dh cQ bX b9 dY=>?_) (he _ _);exact lu (t A bZ br F bz a hA dh bX dY) λzz zy z=>z.glue cg b9
def MF{pos:Pos}(h:TB W d cx ls H e q H'):TB W d cx ls H (.UnaryOp .Not e pos) (!q) H':=by
 intro A B ρ F env s hA hB hE hF hR;exact wpAny_isTrue_Not (h.go hA hB hE hF hR λbZ br bz cg dh cQ bX b9=>(d0 bZ br cg bX b9 rfl))
def Lc(h:gW x=some q):M8 W d H x (unaryOp .Not) λB ρ F s=>PV W B ρ F s (.bool (!q)) H:=λA B ρ F s u hA hB hR hv=>
 not_of (sj h hv (d0 B ρ (.refl B ρ) hR (.refl s) .bool))
def Lf{i:Int}:M8 W d H (.int i) (unaryOp .USub) λB ρ F s=>PV W B ρ F s (.int (-i)) H:=λA B ρ F s u hA hB hR hv=>
 (rH hv).elim λt e=>e ▸neg_int (d0 B ρ (.refl B ρ) hR (⟨rfl,rfl,rfl⟩) .int)
abbrev EN:BoolOp->Bool:=λo=>BoolOp.casesOn o false true
abbrev TC(W:Wd)(d:Nat)(cx:CX)(ls:Ls)(H:Hp)(op:BoolOp)(es:List Expr)(v:AV)(H':Hp):Prop:= ∀pos:Pos,TE W d cx ls H (.BoolOp op es pos) v H'
abbrev I4(W:Wd)(d:Nat)(cx:CX)(ls:Ls)(H:Hp)(op:BoolOp)(es:List Expr)(b:Bool)(H':Hp):Prop:=Tx W d cx ls H (λenv=>allTrue op es env) λB ρ F s=>PB W B ρ F s b H'
def F7{op:BoolOp}(h:TE W d cx ls H e v H'):TC W d cx ls H op [e] v H':=λpos=>h
def r6{op:BoolOp}(h:TE W d cx ls H e v H')(t:gW v=some (EN op)):TC W d cx ls H op (e::e'::es) v H':=by
 intro pos A B ρ F env s hA hB hE hF hR
 cases op using BoolOp.casesOn with
 | And=>exact BoolOp_and (h.go hA hB hE hF hR λbZ br a bz cg dh cQ bX b9 dY=>vr t dY (d0 bZ br cg bX b9 dY))
 | Or=>exact BoolOp_or (h.go hA hB hE hF hR λbZ br a bz cg dh cQ bX b9 dY=>rT t dY (d0 bZ br cg bX b9 dY))
def BV{op:BoolOp}(h:TE W d cx ls H e x aq)(t:gW x=some (!EN op))(h':TC W d cx ls aq op (e'::es) v H'):TC W d cx ls H op (e::e'::es) v H':=by
 intro pos A B ρ F env s hA hB hE hF hR
 cases op using BoolOp.casesOn with
 | And=>exact BoolOp_and (h.go hA hB hE hF hR λbZ br a bz cg dh cQ bX b9 dY=>rT t dY (lu (h' pos A bZ br F env bz hA dh hE cQ bX) λzz zy z=>z.glue cg b9))
 | Or=>exact BoolOp_or (h.go hA hB hE hF hR λbZ br a bz cg dh cQ bX b9 dY=>vr t dY (lu (h' pos A bZ br F env bz hA dh hE cQ bX) λzz zy z=>z.glue cg b9))
def qi{op:BoolOp}{pos:Pos}(h:TC W d cx ls H op es v H'):TE W d cx ls H (.BoolOp op es pos) v H':=h pos
def r7{op:BoolOp}{pos:Pos}(h:I4 W d cx ls H op es q H'):TB W d cx ls H (.BoolOp op es pos) q H':=λA B ρ F env s hA hB hE hF hR=>wpAny_isTrue_BoolOp (h A B ρ F env s hA hB hE hF hR)
def BW{op:BoolOp}:I4 W d cx ls H op [] (op== .And) H:=λA B ρ F env s hA hB hE hF hR=>bJ (d0 B ρ (.refl B ρ) hR (.refl s) rfl)
def mq{op:BoolOp}(h:TB W d cx ls H e (EN op) H'):I4 W d cx ls H op (e::es) (EN op) H':=by
 intro A B ρ F env s hA hB hE hF hR
 cases op using BoolOp.casesOn with
 | And=>exact wpAny_allTrue_And_cons (h.go hA hB hE hF hR λbZ br bz cg dh cQ bX b9=>(d0 bZ br cg bX b9 rfl))
 | Or=>exact wpAny_allTrue_Or_cons (h.go hA hB hE hF hR λbZ br bz cg dh cQ bX b9=>(d0 bZ br cg bX b9 rfl))
def qX{op:BoolOp}{c:Bool}(h:TB W d cx ls H e (!EN op) aq)(h':I4 W d cx ls aq op es c H'):I4 W d cx ls H op (e::es) c H':=by
 intro A B ρ F env s hA hB hE hF hR
 cases op using BoolOp.casesOn with
 | And=>exact wpAny_allTrue_And_cons (h.go hA hB hE hF hR λbZ br bz cg dh cQ bX b9=>lu (h' A bZ br F env bz hA dh hE cQ bX) λzz zy z=>z.glue cg b9)
 | Or=>exact wpAny_allTrue_Or_cons (h.go hA hB hE hF hR λbZ br bz cg dh cQ bX b9=>lu (h' A bZ br F env bz hA dh hE cQ bX) λzz zy z=>z.glue cg b9)
def Rb{o o':CmpOp}{v:AV}(h:TE W d cx ls H l x aq)(h':TE W d cx ls aq b y aO)(op:r8 W d aO x y (dI o) (.bool true) aO)(h'':TE W d cx ls aO c z dK)(op':r8 W d dK y z (dI o') (.bool q) H')
  (hm:cY o b=false)(hm':cY o' c=false)(pos:Pos):TE W d cx ls H (.Compare l [o,o'] [b,c] pos) (.bool q) H':=by
 intro A B ρ F env s hA hB hE hF hR;refine Compare_chain (h.go hA hB hE hF hR λbZ br a bz cg dh cQ bX b9 dY=>chain_link (h'.go hA dh hE cQ bX λfY d7 u dQ eD iJ jb eI fH gT=>lu (op A fY d7 F dQ a u hA iJ eI (dY.mono eD) gT) λc' oA xq2=>fy xq2 λnX j0 iy jD lz qr=>rT rfl qr ?_)) hm';exact chain_last (h''.go hA (iJ.mono iy.b) hE (jb.mono iy) jD λo7 kC t my pS Ma wh nB vN Kk=>lu (op' A o7 kC F my u t hA Ma nB ((gT.mono iy).mono pS) Kk) λc'' GH PZ=>(((PZ.glue pS vN).glue iy lz).glue eD fH).glue cg b9)
def ID{o o':CmpOp}(h:TE W d cx ls H l x aq)(h':TE W d cx ls aq b y aO)(op:r8 W d aO x y (dI o) (.bool false) aO)
  (hm:cY o b=false)(hm':cY o' c=false)(pos:Pos):TE W d cx ls H (.Compare l [o,o'] [b,c] pos) (.bool false) aO:=by
 intro A B ρ F env s hA hB hE hF hR;exact Compare_chain (h.go hA hB hE hF hR λbZ br a bz cg dh cQ bX b9 dY=>chain_link (h'.go hA dh hE cQ bX λfY d7 u dQ eD iJ jb eI fH gT=>lu (op A fY d7 F dQ a u hA iJ eI (dY.mono eD) gT) λc' oA xq3=>fy xq3 λnX j0 iy jD lz qr=>vr rfl qr (d0 nX j0 ((cg.trans eD).trans iy) jD ((b9.trans fH).trans lz) qr))) hm'
def Qc{o o':CmpOp}{v:AV}(h:TE W d cx ls H l x aq)(h':TE W d cx ls aq b y aO)(op:r8 W d aO x y (dI o) (.bool true) aO)(h'':TE W d cx ls aO c z dK)(op':r8 W d dK y z (dI o') (.bool q) H')
  (hm:cY o b=false)(hm':cY o' c=false)(pos:Pos):TB W d cx ls H (.Compare l [o,o'] [b,c] pos) q H':=by
 intro A B ρ F env s hA hB hE hF hR;refine isTrue_chain (h.go hA hB hE hF hR λbZ br a bz cg dh cQ bX b9 dY=>test_link (h'.go hA dh hE cQ bX λfY d7 u dQ eD iJ jb eI fH gT=>lu (op A fY d7 F dQ a u hA iJ eI (dY.mono eD) gT) λc' oA xq4=>fy xq4 λnX j0 iy jD lz qr=>rT rfl qr ?_)) hm';exact test_last (h''.go hA (iJ.mono iy.b) hE (jb.mono iy) jD λo7 kC t my pS Ma wh nB vN Kk=>lu (op' A o7 kC F my u t hA Ma nB ((gT.mono iy).mono pS) Kk) λc'' GH xq5=>fy xq5 λJc AP yh yQ zD Kj=>
  sj rfl Kj (d0 _ _ ((((cg.trans eD).trans iy).trans pS).trans yh) yQ ((((b9.trans fH).trans lz).trans vN).trans zD) rfl))
def Gy{o o':CmpOp}(h:TE W d cx ls H l x aq)(h':TE W d cx ls aq b y aO)(op:r8 W d aO x y (dI o) (.bool false) aO)
  (hm:cY o b=false)(hm':cY o' c=false)(pos:Pos):TB W d cx ls H (.Compare l [o,o'] [b,c] pos) false aO:=by
 intro A B ρ F env s hA hB hE hF hR;exact isTrue_chain (h.go hA hB hE hF hR λbZ br a bz cg dh cQ bX b9 dY=>test_link (h'.go hA dh hE cQ bX λfY d7 u dQ eD iJ jb eI fH gT=>lu (op A fY d7 F dQ a u hA iJ eI (dY.mono eD) gT) λc' oA xq6=>fy xq6 λnX j0 iy jD lz qr=>vr rfl qr (d0 nX j0 ((cg.trans eD).trans iy) jD ((b9.trans fH).trans lz) rfl))) hm'
end
end
section
mutual
variable{B:BgT}{ρ:List Addr}{q:Bool}{F:Raws}{x y:AV}{s s':Shared}{b:Int}{k:Nat}{vs:List AV}{t:Tok}{A:Around}
variable{W:Wd}{d:Nat}{H H':Hp}
def kB{a:Int}(h:fQ a=true):gV a<=1024:=intBits_le (by
 unfold fQ at h;have:=cL.mp h;exact this)
def E4{a:Int}(h:fQ a=true)(h':fQ b=true):IntMulOk a b:=by
 have x:=kB h;have y:=kB h';exact IntMulOk.of_bits (by exact aj x (ab rfl)) (by exact aj y (ab rfl))
def tG{a:Int}(h:fQ b=true):De a b=false:=by
 have:Nat.log2 b.natAbs<=1024:=by
  have y:=kB h
  unfold gV at y
  by_cases q:b=0
  ·subst q;simp
  ·simp only[beq_iff_eq,q,if_false]at y;exact d5 y
 unfold De;simp only[Bool.and_eq_false_imp,decide_eq_true_eq];intro hy
 exfalso
 split at hy
 ·exact(Dj [] [] (.hn (eS (aG 300)) (aG 0) .ho) aR hy)
 ·exact(Dj [] [_,_] (.hn (eS (aG 300)) bf (.hn (fZ 30 ai) ay (.hn ay (aG 1024) (.hn (eS (aG 300)) bf (.hn (eS (aG 300)) bf (.hn (eS (aG 300)) bf .ho)))))) aR hy (ue _ _) this hy hy hy)
def hP{i:Int}(hR:RM W B ρ F H s.heap)(hs:s'.heap=s.heap)(r:Rest s s'):PV W B ρ F s (.int i) H (.int i t) s':=⟨B,ρ, .refl B ρ,hs ▸hR,r, .int⟩
def dP{b:Bool}(hR:RM W B ρ F H s.heap)(hs:s'.heap=s.heap)(r:Rest s s'):PV W B ρ F s (.bool b) H (.bool b) s':=⟨B,ρ, .refl B ρ,hs ▸hR,r, .bool⟩
def sS{x:List Nat}(hR:RM W B ρ F H s.heap)(hs:s'.heap=s.heap)(r:Rest s s'):PV W B ρ F s (.str x) H (.str (aN x) t) s':=⟨B,ρ, .refl B ρ,hs ▸hR,r, .str⟩
def HL(a:Int)(n:Nat):HM a n=a ^ n:=by
 cases a using iu with
 | ofNat m=>simp[HM]
 | negSucc m=>rfl
def Bd(n:Nat):G6 n=2 ^ n:=by simp[G6]
abbrev Nl:O2->Operator
 | .add=> .Add | .sub=> .Sub | .mul=> .Mult | .fdiv=> .FloorDiv | .mod=> .Mod | .pow=> .Pow | .shl=> .LShift | .shr=> .RShift | .band=> .BitAnd
def FG{op:Operator}{o:O2}(h:Pu op=some o):op=Nl o:=by
 induction op using Operator.casesOn <;> first | exact dz h | exact ae h ▸rfl
def PI(h:(!decide (b=0))=true):b≠0:=λe=>by rw[decide_eq_true e]at h;exact ll h
def KX{op:Operator}{o:O2}{a c:Int}(ho:Pu op=some o)(h:ES o a b=some c):r8 W d H (.int a) (.int b) (binaryOp op) (.int c) H:=by
 intro A B ρ F s u v hA hB hR hu hv;obtain⟨t,e⟩:=rH hu;obtain⟨t',e'⟩:=rH hv
 erw [e,e',FG ho]
 cases o using O2.casesOn with
 | add=>exact oo h (add_int (hP hR rfl ⟨rfl,rfl,rfl⟩))
 | sub=>exact oo h (sub_int (hP hR rfl ⟨rfl,rfl,rfl⟩))
 | mul=>exact kA h λhf h=>oo h (mul_int (hP hR rfl ⟨rfl,rfl,rfl⟩) (E4 (ag.mp hf).1 (ag.mp hf).2))
 | mod=>exact kA h λhb h=>oo h (mod_int' (PI hb) (hP hR rfl ⟨rfl,rfl,rfl⟩))
 | band=>exact oo h (and_int (hP hR rfl ⟨rfl,rfl,rfl⟩))
 | fdiv=>exact kA h λhb h=>oo h (floordiv_int (PI (ag.mp hb).1) (hP hR rfl ⟨rfl,rfl,rfl⟩) (.inl (tG (ag.mp hb).2)))
 | shr=>
  refine kA h λhb h=>oo h ?_
  erw [Bd]
  exact rshift_int (of_decide_eq_true hb) (hP hR rfl ⟨rfl,rfl,rfl⟩)
 | shl=>
  refine kA h λhb h=>oo h ?_;obtain⟨fa,hc⟩:=ag.mp hb;have hc:=of_decide_eq_true hc
  erw [Bd]
  refine lshift_int hc.1 ?_ (hP hR rfl ⟨rfl,rfl,rfl⟩);have x:=kB fa
  (clear fa h hb ho e' e;lia)
 | pow=>
  refine kA h λhb h=>oo h ?_;obtain⟨fa,hc⟩:=ag.mp hb;have hc:=of_decide_eq_true hc
  erw [HL]
  refine pow_int hc.1 ?_ (hP hR rfl ⟨rfl,rfl,rfl⟩);have x:=kB fa;have:(gV a:Int)*b<=1024*64:=t7 (by exact bO.mpr x) hc.2 hc.1 (by exact(eB [] [] 0 (.ik 0) (.ik 1024) .ho aR));exact(eB [_] [] 0 (.iv 0) (.ik (2 ^ 27)) (.hz (.iv 0) (.im 1024 (.ik 64)) .ho) aR this)
def fg{n:Nat}(h:cF n=true):n<=1000000:=by unfold cF at h;exact ab h
def w9(x y:List Nat):aN x++aN y=aN (x++y):=by
 show Str.append _ _=_;simp[Str.append]
def cy(x:List Nat):(aN x).length=x.length:=by simp[Str.length]
def uI{x y:List Nat}(h:cF (x.length+y.length)=true):r8 W d H (.str x) (.str y) (binaryOp .Add) (.str (x++y)) H:=by
 intro A B ρ F s u v hA hB hR hu hv;obtain⟨t,e⟩:=mw hu;obtain⟨t',e'⟩:=mw hv
 erw [e,e']
 refine add_str (λt' tk=>w9 x y ▸sS hR rfl ⟨rfl,rfl,rfl⟩) ?_
 erw [cy,cy]
 exact aj (fg h) (aj (ab rfl) dZ)
def Lj(x:List Nat)(n:Int)(h:0<=n):Txt.mul (aN x) n=aN (cC n.toNat x).flatten:=by
 have go:∀(k:Nat) (acc:Array Nat),(cC k x.toArray).foldl (· ++·) acc=acc++(cC k x).flatten.toArray:=by
  intro k
  induction k with
  | zero=>intro acc;simp
  | succ k ih=>intro acc;erw [List.replicate_succ,List.foldl_cons,ih,List.replicate_succ,k9];simp
 unfold Txt.mul
 split
 ·have:n.toNat=0:=by lia
  erw [this];rfl
 ·split
  ·rename_i h1 h2
   simp only[Bool.or_eq_true,beq_iff_eq,cy]at h2;rcases h2 with h2 | h2
   ·subst h2;simp
   ·erw [List.length_eq_zero_iff.mp h2];simp
  ·congr 1
   erw [go];simp
def Cp{x:List Nat}{n:Int}(h:0<=n/\n<=1000)(h':cF (x.length*1000)=true):r8 W d H (.str x) (.int n) (binaryOp .Mult) (.str (cC n.toNat x).flatten) H:=by
 intro A B ρ F s u v hA hB hR hu hv;obtain⟨t,e⟩:=mw hu;obtain⟨t',e'⟩:=rH hv
 erw [e,e']
 have hr:=fg h';have hn:x.length*n.toNat<=x.length*1000:=Nat.mul_le_mul_left _ (by exact(bO.mp (eB [_] [_] 0 (.ic ai) (.ic (aG 1000)) (.hz (.ic ai) (.iv 0) (.hz (.iv 0) (.ik 1000) .ho)) aR (wU (bU (eB [_] [] 0 (.ik 0) (.iv 0) (.hz (.ik 0) (.iv 0) .ho) aR h.1))) h.2)));refine SB.mul (eC ?_ (λh1 h2=>?_) (λh1 h2=>?_)) λt' k=>Lj x n h.1 ▸sS hR rfl ⟨rfl,rfl,rfl⟩
 ·simp only[eO,decide_eq_false_iff_not];exact⟨(λzz=>(Dj [_] [] (.hz (.ip (.iv 0) (.ik 1)) (.ik (-(2 ^ 63))) (.hz (.ik 0) (.iv 0) .ho)) (by kernel_rfl) zz h.1)),(λzz=>(Dj [_] [] (.hz (.ik (2 ^ 63)) (.iv 0) (.hz (.iv 0) (.ik 1000) .ho)) (by kernel_rfl) zz h.2))⟩
 ·erw [cy]
  have:(x.length:Int)<=(2 ^ 63-1) / n:=(Int.le_ediv_iff_mul_le (by exact(eB [_] [] 0 (.ip (.ik 0) (.ik 1)) (.iv 0) (.hz (.ik 1) (.iv 0) .ho) aR (jf.mp h1)))).mpr (by
   have:(x.length:Int)*n<=1000000*1000:=t7 (by exact(eB [] [_] 0 (.ic ai) (.ik 1000000) (.hn (TH ai 1000) cX .ho) aR hr)) h.2 h.1 (by exact(eB [] [] 0 (.ik 0) (.ik 1000000) .ho aR))
   exact(eB [_] [] 0 (.iv 0) (.ik ((2 ^ 63)-1)) (.hz (.iv 0) (.im 1000000 (.ik 1000)) .ho) aR this));exact(λzz=>(Dj [_] [_] (.hz (.ip (.iv 0) (.ik 1)) (.ic ai) (.hz (.ic ai) (.iv 0) .ho)) aR zz this))
 ·erw [cy]
  have:=dZ;exact decide_eq_false (iA.mpr (aj hn (aj hr (aj (ab rfl) this))))
def zM{x y:Bool}:r8 W d H (.bool x) (.bool y) (binaryOp .Sub) (.int (yK x-yK y)) H:=by
 intro A B ρ F s u v hA hB hR hu hv
 erw [nY hu,nY hv]
 exact sub_bool (hP hR rfl ⟨rfl,rfl,rfl⟩)
def oJ(hA:AOk A d):A.units+64<cLine:=by
 erw [cLine_is]
 exact fC (t6 (aj (bu ..) hA.units) 64) (ab rfl)
end
mutual
variable{B:BgT}{ρ:List Addr}{h:Heap}
/-- -/
theorem sQ(k:∀b o,B b=some o->h.get? b=some o):∀(x:AV) (v:Value),VR W B ρ x v->∀(p:PyData),mV x=some p->∃as,Reads h v p as
 | .none,v,r,p,e=>by erw [AU r,<- ae e];exact⟨_, .none⟩
 | .bool _,v,r,p,e=>by erw [nY r,<- ae e];exact⟨_, .bool _⟩
 | .int _,v,r,p,e=>by obtain⟨t,q⟩:=rH r;erw [q,<- ae e];exact⟨_, .int _ _⟩
 | .str _,v,r,p,e=>by obtain⟨t,q⟩:=mw r;erw [q,<- ae e];exact⟨_, .str _ _⟩
 | .U vs,v,r,p,e=>by
  refine gS (Dw r) λa o its q e1 i r=>?_;refine jV (show(toPDs vs).map PyData.tuple=some p from e) λxs hx hp=>?_;obtain⟨as,h2⟩:=readss_of k vs _ r xs hx;obtain⟨i1,n,i2⟩:=i
  erw [q,<- hp]
  exact⟨as, .tuple (k _ _ e1) i1 i2 h2⟩
 | .a _,v,r,p,e=>dz e
 | .obj _,v,r,p,e=>dz e
 | .rng _ _ _,v,r,p,e=>dz e
 | .ref _,v,r,p,e=>dz e
theorem readss_of(k:∀b o,B b=some o->h.get? b=some o):∀(x:List AV) (v:List Value),VRs W B ρ x v->∀(p:List PyData),toPDs x=some p->∃as,ReadsAll h v p as
 | [],v,r,p,e=>by erw [vq r,<- ae e];exact⟨_, .nil⟩
 | x::xs,v,r,p,e=>by
  refine dX (jl r) λu us q r rs=>?_
  erw [q]
  unfold toPDs at e;cases e1:mV x with
  | none=>rw[e1]at e;exact dz e
  | some y=>
   cases e2:toPDs xs with
   | none=>rw[e1,e2]at e;exact dz e
   | some ys=>
    rw[e1,e2]at e;obtain⟨as,h1⟩:=sQ k x _ r y e1;obtain⟨bs,h2⟩:=readss_of k xs _ rs ys e2;exact ae e ▸⟨_, .cons h1 h2⟩
end
mutual
@[elab_as_elim] theorem yv{x y:Option PyData}{G:Bool->Prop}(h:CU x y=some q)(g:∀p r,x=some p->y=some r->SeqAt.shaped p=true->SeqAt.shaped r=true->G (PyData.eqv p r)):G q:=by
 cases x using bb with
 | none=>exact dz h
 | some p=>cases y using bb with
  | none=>exact dz h
  | some r=>
   unfold CU at h;cases hs:(SeqAt.shaped p && SeqAt.shaped r)with
   | false=>try dsimp only at h;rw[hs]at h;exact dz h
   | true=>try dsimp only at h;rw[hs]at h;exact oo h (g p r rfl rfl (ag.mp hs).1 (ag.mp hs).2)
def rM{H:Hp}(h:aD H k=some vs):H[k]? =some (.list vs):=by
 unfold aD at h
 split at h
 ·rename_i e;(replace h:=ae h;subst h);exact e
 ·cases h
def JM{x y:List Nat}:((aN x).cps.toList==(aN y).cps.toList)=decide (x=y):=by
 show(x.toArray.toList==y.toArray.toList)=_;by_cases h:x=y
 ·subst h;simp
 ·simp[h]
def eA(hR:RM W B ρ F H s.heap){a:Addr}(e:aD H k=some vs)(ha:ρ[k]? =some a):∃its,s.heap.IsList a its.toArray/\VRs W B ρ vs its:=by
 refine gS (hR.listAt (rM e)) λa' its n p1 p2 p3 zz=>?_;rw[<- ae (ha.symm.trans p1)]at p2;exact bH its (⟨_,p2,rfl,n,rfl⟩) p3
abbrev AI(W:Wd)(d:Nat)(H:Hp)(x y:AV)(o o':CmpOp)(q:Bool):Prop:=
 ∀(A:Around) (B:BgT) (ρ:List Addr) (F:Raws) (s:Shared) (a b:Value),AOk A d->gu W B->RM W B ρ F H s.heap->VR W B ρ x a->VR W B ρ y b->
  wpAny W.M A (dI o a b) (PV W B ρ F s (.bool q) H) fh s/\wpAny W.M A (dI o' a b) (PV W B ρ F s (.bool (!q)) H) fh s
def BN{u v:Value}{p r:PyData}{as bs:List Addr}(hA:AOk A d)(hR:RM W B ρ F H s.heap)(r1:Reads s.heap u p as)(r2:Reads s.heap v r bs)(sp:SeqAt.shaped p=true)(sr:SeqAt.shaped r=true):
  wpAny W.M A (dI .Eq u v) (PV W B ρ F s (.bool (PyData.eqv p r)) H) fh s/\wpAny W.M A (dI .NotEq u v) (PV W B ρ F s (.bool (!(PyData.eqv p r))) H) fh s:=
 ⟨eq_dataH r1 r2 sp sr (oJ hA) (dP hR rfl (.refl s)),ne_dataH r1 r2 sp sr (oJ hA) (dP hR rfl (.refl s))⟩
def tc{a:Addr}{p:PyData}(hR:RM W B ρ F H s.heap)(hc:aD H k=some vs)(ha:ρ[k]? =some a)(hp:(toPDs vs).map PyData.list=some p):∃as,Reads s.heap (.ref a) p as:=by
 refine aL (eA hR hc ha) λits xq1 h4=>?_;obtain⟨o,h1,h2,n,h3⟩:=xq1;refine jV hp λxs hx e=>?_;obtain⟨as,h5⟩:=readss_of hR.keep _ _ h4 _ hx;exact e ▸⟨_, .list h1 h2 h3 h5⟩
def Jr(h:Gi H x y=some q):AI W d H x y .Eq .NotEq q:=by
 intro A B ρ F s u v hA hB hR hu hv
 cases x using AV.casesOn with
 | int a=>
  obtain⟨t,e⟩:=rH hu
  erw [e]
  exact mP h hv λb t' h=>oo h ⟨eq_int (dP hR rfl (.refl s)),ne_int (dP hR rfl (.refl s))⟩
 | str a=>
  obtain⟨t,e⟩:=mw hu
  erw [e]
  exact sv h hv λb t' h=>oo h ⟨P.eq_str (JM ▸dP hR rfl (.refl s)),P.ne_str (by rewrite [bne];erw [JM];exact dP hR rfl (.refl s))⟩
 | U xs=>
  obtain⟨y1,e1⟩:∃ys,y= .U ys:=by induction y using AV.casesOn <;> first | exact⟨_,rfl⟩ | exact dz h
  rw[e1]at h hv;refine yv h λp r ep er sp sr=>?_;obtain⟨as,r1⟩:=sQ hR.keep _ _ hu _ (show mV (.U xs)=some p from ep);obtain⟨bs,r2⟩:=sQ hR.keep _ _ hv _ (show mV (.U y1)=some r from er);exact BN hA hR r1 r2 sp sr
 | ref i=>
  refine aL (mT hu) λa e ha=>?_
  erw [e]
  refine zF h hv λj b hb h=>jd h λxs h1 h=>jd h λys h2 h=>nu h (λzz h=>yv h λp r ep er sp sr=>?_) λhl h=>oo h ?_
  ·obtain⟨as,r1⟩:=tc hR h1 ha ep;obtain⟨bs,r2⟩:=tc hR h2 hb er;exact BN hA hR r1 r2 sp sr
  ·refine aL (eA hR h1 ha) λits l1 q1=>?_;refine aL (eA hR h2 hb) λits' l2 q2=>?_;have hsz:(its.toArray.size !=its'.toArray.size)=true:=bne_iff_ne.mpr λe=>Nat.ne_of_beq_eq_false hl (q1.length.symm.trans (Eq.trans e q2.length));have hu':A.units<cLine:=fC (bu _ _) (oJ hA);exact⟨SeqAt.eq_list_lengthsAt l1 l2 hsz hu' (dP hR rfl (.refl s)),SeqAt.RcNeAt.lists_lengths l1 l2 hsz hu' _ _ _ _ (dP hR rfl (.refl s))⟩
 | _=>exact dz h
def Bp{i j:Nat}(h:i≠j):aW i j=false:=by
 cases q:aW i j with
 | false=>rfl
 | true=>exact absurd (aV q) h
structure Wd.Objs(W:Wd):Prop where
 at_:∀(i:Nat) (a:Addr),W.oa[i]? =some a->∃o,W.base.get? a=some o/\o.cls≠ .type "tuple"
 inj:∀(i j:Nat) (a:Addr),W.oa[i]? =some a->W.oa[j]? =some a->i=j
def tP{h:Heap}(hR:RM W B ρ F H h){a:Addr}(e:ρ[k]? =some a):∃o,h.get? a=some o/\o.cls≠ .type "tuple"/\B a=none:=by
 obtain⟨hi,_⟩:=aT.mp e;rw[hR.len]at hi;have hc:H[k]? =some H[k]:=aT.mpr ⟨hi,rfl⟩;cases q:H[k]with
 | list vs=>refine jT (hR.listAt (hc.trans (by erw [q];rfl))) λb zz zy p o zx r zw=>?_;rw[e]at p;(replace p:=ae p;subst p);exact eF _ o (by simp) r
 | n c fs=>refine wZ (hR.instAt (hc.trans (by erw [q];rfl))) λb zz zy zx zw p zv o zu zt r zs=>?_;rw[e]at p;(replace p:=ae p;subst p);exact eF _ o (by simp) r
 | dict fs=>refine Gm (hR.dictAt (hc.trans (by erw [q];rfl))) λb zz zy p o xq2 zx r zw=>?_;refine gy xq2 λzz zy ex zx=>?_;rw[e]at p;(replace p:=ae p;subst p);exact eF _ o (by erw [ex.1];simp) r
end
section
mutual
variable{a:Addr}
variable{A:Around}{B:BgT}{ρ:List Addr}{F:Raws}{s:Shared}(hR:RM W B ρ F H s.heap)
include hR
def Bx{i:Nat}:wpAny W.M A (dI .Is (.ref a) (.ref a)) (PV W B ρ F s (.bool (aW i i)) H) fh s/\wpAny W.M A (dI .IsNot (.ref a) (.ref a)) (PV W B ρ F s (.bool (!aW i i)) H) fh s:=by
 erw [fV]
 exact⟨wpAny_is_ref_self (dP hR rfl (.refl _)),wpAny_isNot_ref_self (dP hR rfl (.refl _))⟩
def rV{b:Addr}{oa ob:Obj}(hne:a≠b)(h1:s.heap.get? a=some oa)(h2:s.heap.get? b=some ob)(hc:oa.cls≠ .type "tuple"):wpAny W.M A (dI .Is (.ref a) (.ref b)) (PV W B ρ F s (.bool false) H) fh s/\wpAny W.M A (dI .IsNot (.ref a) (.ref b)) (PV W B ρ F s (.bool true) H) fh s:=
 ⟨wpAny_is_ref_other hne h1 h2 hc (dP hR rfl (.refl _)),wpAny_isNot_ref_other hne h1 h2 hc (dP hR rfl (.refl _))⟩
def tj{u v:Value}(hp:plainIs u v=true)(hne:u≠v):wpAny W.M A (dI .Is u v) (PV W B ρ F s (.bool false) H) fh s/\wpAny W.M A (dI .IsNot u v) (PV W B ρ F s (.bool true) H) fh s:=
 ⟨wpAny_is_other hp hne (dP hR rfl (.refl _)),wpAny_isNot_other hp hne (dP hR rfl (.refl _))⟩
end
end
mutual
def Jp(O:W.Objs)(h:Dk x y=some q):AI W d H x y .Is .IsNot q:=by
 intro A B ρ F s u v hA hB hR hu hv
 cases y using AV.casesOn with
 | none=>
  refine oo h ?_
  erw [AU hv]
  have e:(u==Value.none)=mD x:=by induction hu using VR.casesOn <;> rfl
  exact⟨is_none (e ▸dP hR rfl (.refl _)),isNot_none (e ▸dP hR rfl (.refl _))⟩
 | obj j=>
  refine aL (Gx hv) λb e hb=>?_;refine aL (O.at_ _ _ hb) λo2 g2 c2=>?_
  erw [e]
  cases x using AV.casesOn with
  | none=>erw [AU hu];exact oo h (tj hR rfl (λe=>nomatch e))
  | bool zz=>erw [nY hu];exact oo h (tj hR rfl (λe=>nomatch e))
  | int zz=>obtain⟨t,e⟩:=rH hu;erw [e];exact oo h (tj hR rfl (λe=>nomatch e))
  | str zz=>obtain⟨t,e⟩:=mw hu;erw [e];exact oo h (tj hR rfl (λe=>nomatch e))
  | obj i=>
   refine aL (Gx hu) λa e ha=>?_;refine aL (O.at_ _ _ ha) λo1 g1 c1=>?_
   erw [e]
   refine oo h ?_;by_cases e:i=j
   ·subst e
    erw [ae (ha.symm.trans hb)]
    exact Bx hR
   ·erw [Bp e]
    exact rV hR (λq=>e (O.inj _ _ _ ha (q ▸hb))) (hR.base hB _ _ g1) (hR.base hB _ _ g2) c1
  | ref i=>
   refine aL (mT hu) λa e ha=>?_;refine dq (tP hR ha) λo1 g1 c1 n1=>?_
   erw [e]
   exact oo h (rV hR (λq=>dz (n1.symm.trans (q ▸hB _ _ g2))) g1 (hR.base hB _ _ g2) c1)
  | _=>exact dz h
 | ref j=>
  refine aL (mT hv) λb e hb=>?_;refine dq (tP hR hb) λo2 g2 c2 n2=>?_
  erw [e]
  cases x using AV.casesOn with
  | none=>erw [AU hu];exact oo h (tj hR rfl (λe=>nomatch e))
  | obj i=>
   refine aL (Gx hu) λa e ha=>?_;refine aL (O.at_ _ _ ha) λo1 g1 c1=>?_
   erw [e]
   exact oo h (rV hR (λq=>dz (n2.symm.trans (q ▸hB _ _ g1))) (hR.base hB _ _ g1) g2 c1)
  | ref i=>
   refine aL (mT hu) λa e ha=>?_;refine dq (tP hR ha) λo1 g1 c1 n1=>?_
   erw [e]
   refine oo h ?_;by_cases e:i=j
   ·subst e
    erw [ae (ha.symm.trans hb)]
    exact Bx hR
   ·erw [Bp e]
    exact rV hR (λq=>e (hR.inj ha (q ▸hb))) g1 g2 c1
  | _=>exact dz h
 | _=>exact dz h
def vQ{op:CmpOp}(h:zL (JU op) x y=some q):r8 W d H x y (dI op) (.bool q) H:=λA B ρ F s u v hA hB hR hu hv=>mP h hu λa t h=>mP h hv λb t' h=>by
 cases op using CmpOp.casesOn with
 | Lt=>exact oo h (PyProof.Rows.lt_int (dP hR rfl (.refl s)))
 | LtE=>exact oo h (PyProof.Rows.le_int (dP hR rfl (.refl s)))
 | Gt=>exact oo h (PyProof.Rows.gt_int (dP hR rfl (.refl s)))
 | GtE=>exact oo h (PyProof.Rows.ge_int (dP hR rfl (.refl s)))
 | _=>exact dz h
def sx{x y:List Nat}(h:aN x=aN y):x=y:=congrArg (λw:Str=>w.cps.toList) h
def DI(z x:List Nat):(aN z==aN x)=decide (z=x):=by
 by_cases e:z=x
 ·erw [e,decide_eq_true rfl];exact beq_self_eq_true _
 ·erw [decide_eq_false e];exact beq_eq_false_iff_ne.mpr λq=>e (sx q)
abbrev PK(x:List Nat)(u:Value):Bool:=match u with
 | .str t _=>t==aN x
 | _=>false
def AX(x:List Nat):∀(vs:List AV) (us:List Value) (ys:List (List Nat)),VRs W B ρ vs us->gX vs=some ys->
  us.any (PK x)=ys.any (λy=>decide (y=x))/\∀u∈us,∃y t,u= .str (aN y) t
 | [],us,ys,r,h=>by erw [vq r,<- ae h];exact⟨rfl,λu hu=>nomatch hu⟩
 | v::vs,us,ys,r,h=>by
  refine dX (jl r) λu us' e r rs=>?_
  erw [e]
  cases v using AV.casesOn with
  | str z=>
   obtain⟨t,e'⟩:=mw r;refine jV (show(gX vs).map (z::·)=some ys from h) λys' hy e2=>?_;obtain⟨p,q⟩:=AX x vs us' ys' rs hy
   erw [e',<- e2,oY,oY,p]
   refine⟨?_,λu hu=>?_⟩
   ·erw [(show PK x (.str (aN z) t)=decide (z=x)from DI z x)];rfl
   ·rcases aQ.mp hu with e | hu
    ·exact ug _ _ e
    ·exact q u hu
  | _=>exact dz h
def Jq(h:N9 x y=some q):AI W d H x y .In .NotIn q:=λA B ρ F s u v hA hB hR hu hv=>sv h hu λx t h=>by
 cases y using AV.casesOn with
 | str w=>
  obtain⟨t',e⟩:=mw hv
  erw [e]
  refine zQ (show qh x (λc=>some (w.contains c))=some q from h) λc h=>oo h ?_;have e:(!(hU (aN w) ⟨#[c]⟩ 0 (aN w).length 1).isEmpty)=w.contains c:=by
   erw [StrLaws.found_one]
   simp
  exact⟨P.in_str (e ▸dP hR rfl (.refl _)),P.notIn_str (by erw [<- e,Bool.not_not];exact dP hR rfl (.refl _))⟩
 | U vs=>
  refine gS (Dw hv) λa o its e hb ht r=>?_
  erw [e]
  refine jV (show(gX vs).map _=some q from h) λys hy e=>?_;obtain⟨p,qq⟩:=AX x vs its ys r hy;have hs:∀u∈its.toArray,∃z t',u= .str (aN z) t':=λu hu=>qq u (by simpa using hu);refine⟨SeqAt.in_tupleAt (PK x) (eF _ (hR.keep _ _ hb) ht.1 ht.2) (λu hu=>?_) (by erw [List.any_toArray,p,e];exact dP hR rfl (.refl _)),
   SeqAt.notIn_tupleAt (PK x) (eF _ (hR.keep _ _ hb) ht.1 ht.2) (λu hu=>?_) (by erw [List.any_toArray,p,e];exact dP hR rfl (.refl _))⟩
  all_goals
   refine y4 (hs u hu) λz t' e=>?_
   erw [e]
   exact SeqAt.EqAt.str_str _ _ _ _
 | _=>exact dz h
def AI.pos{o o':CmpOp}(h:AI W d H x y o o' q):r8 W d H x y (dI o) (.bool q) H:=λA B ρ F s a b h1 h2 h3 h4 h5=>(h A B ρ F s a b h1 h2 h3 h4 h5).1
def AI.neg{o o':CmpOp}(h:AI W d H x y o o' q):r8 W d H x y (dI o') (.bool (!q)) H:=λA B ρ F s a b h1 h2 h3 h4 h5=>(h A B ρ F s a b h1 h2 h3 h4 h5).2
def mZ(O:W.Objs){op:CmpOp}(h:iI H (JU op) x y=some q):r8 W d H x y (dI op) (.bool q) H:=by
 cases op using CmpOp.casesOn with
 | Eq=>exact(Jr h).pos
 | NotEq=>exact jV h λb hb e=>e ▸(Jr hb).neg
 | Lt=>exact vQ (op:= .Lt) h
 | LtE=>exact vQ (op:= .LtE) h
 | Gt=>exact vQ (op:= .Gt) h
 | GtE=>exact vQ (op:= .GtE) h
 | Is=>exact(Jp O h).pos
 | IsNot=>exact jV h λb hb e=>e ▸(Jp O hb).neg
 | In=>exact(Jq h).pos
 | NotIn=>exact jV h λb hb e=>e ▸(Jq hb).neg
end
end
section
mutual
variable{s:Shared}{n k j:Nat}{F:Raws}{y x:AV}{a b:Addr}{its:List Value}{Q:Value->Shared->Prop}{i:Int}{o:Obj}{A:Around}{slice:Expr}
variable{W:Wd}{d:Nat}{H H' aq aO dK:Hp}{cx:CX}{ls:Ls}
def xZ{B:BgT}{ρ:List Addr}(hR:RM W B ρ F H s.heap)(hb:B a=some o)(ht:tm o its):IsTup s.heap a its.toArray:=J9 (ht.2) λn e=>⟨o,hR.keep _ _ hb,ht.1,n,e⟩
def nK{B:BgT}{ρ:List Addr}(hR:RM W B ρ F H s.heap)(hb:B a=some o)(ht:pN o its):s.heap.IsList a its.toArray:=J9 (ht.2) λn e=>⟨o,hR.keep _ _ hb,ht.1,n,e⟩
def AE{A:Around}{E:Value->Shared->Prop}{l:Addr}{vs ws:List Value}(hl:s.heap.IsList l vs.toArray)(hb:s.heap.IsList b ws.toArray)
  (hsz:vs.length+ws.length<=ly)
  (h:Q (.ref s.heap.objs.size) {s with heap:=s.heap.push {cls:= .type "list",data:= .seq (vs++ws).toArray}}):
  wpAny W.M A (binaryOp .Add (.ref l) (.ref b)) Q E s:=by
 obtain⟨xq1,ho,hc,n,hd⟩:=id hl;obtain⟨cls,dd,data,sl⟩:=xq1;obtain⟨xq2,ho2,hc2,n2,hd2⟩:=id hb;obtain⟨cls2,dd2,data2,sl2⟩:=xq2;simp only at hc hd hc2 hd2;subst hc hd hc2 hd2;have e:vs.toArray++ws.toArray=(vs++ws).toArray:=by simp
 refine concat_meets (bH _ ho rfl) ⟨_,ho2,rfl⟩ noFill_list_add seq_list_add PySem.F.slot_list_add PySem.F.entry_list_add (PySem.F.args_list_add_2 _ _) (list_addW l b vs.toArray ws.toArray n n2 dd dd2 sl sl2 (by simpa using hsz)) (eC ho ho2 ?_)
 erw [e]
 exact h
def tU{B:BgT}{ρ:List Addr}{jts:List Value}{xs ys:List AV}(hR:RM W B ρ F H s.heap)(p2:s.heap.IsList a its.toArray)(p3:VRs W B ρ xs its)(hb:s.heap.IsList b jts.toArray)(hy:VRs W B ρ ys jts)(h:cF (xs.length+ys.length)=true):
  wpAny W.M A (binaryOp .Add (.ref a) (.ref b)) (PV W B ρ F s (.ref H.length) (H++ [.list (xs++ys)])) fh s:=
 AE p2 hb (by erw [p3.length,hy.length];exact aj (fg h) (aj (ab rfl) dZ)) (d0 B _ (.push B ρ _) (hR.newList (p3.append hy)) (⟨rfl,rfl,rfl⟩) (.ref (by erw [<- hR.len];simp)))
def yb{o:O2}(h:o.isAdd=true):o= .add:=by induction o using O2.casesOn <;> first | rfl | exact ll h
def EL{o:O2}(h:o.isSub=true):o= .sub:=by induction o using O2.casesOn <;> first | rfl | exact ll h
def EO{o:O2}(h:o.isMul=true):o= .mul:=by induction o using O2.casesOn <;> first | rfl | exact ll h
def zP{v:AV}(h:((aD H k).bind λx=>(D4 H y).bind λz=>eU (cF (x.length+z.length)) (some (lK H (.list (x++z)))))=some (v,H')):r8 W d H (.ref k) y (binaryOp .Add) v H':=by
 intro A B ρ F s u w hA hB hR hu hv;refine aL (mT hu) λa e ha=>?_
 erw [e]
 refine jd h λxs h1 h=>jd h λys h2 h=>kA h λhr h=>gh (G:=λv H'=>wpAny W.M A (binaryOp .Add (.ref a) w) (PV W B ρ F s v H') fh s) h ?_;refine aL (eA hR h1 ha) λits p2 p3=>?_
 cases y using AV.casesOn with
 | a zz=>
  refine gS (sd hv) λb o jts e q1 q2 q3=>?_
  erw [e]
  rw[ae h2]at q3;exact tU hR p2 p3 (nK hR q1 q2) q3 hr
 | ref j=>
  refine aL (mT hv) λb e hb=>?_
  erw [e]
  refine aL (eA hR h2 hb) λjts q2 q3=>?_;exact tU hR p2 p3 q2 q3 hr
 | _=>exact dz h2
def KZ{op:Operator}{o:O2}{v:AV}(ho:Pu op=some o)(h:nW o x y H=some (v,H')):r8 W d H x y (binaryOp op) v H':=by
 cases x using AV.casesOn with
 | int i=>
  cases y using AV.casesOn with
  | int j=>exact jV h λk hk e=>gh (G:=λv H'=>r8 W d H _ _ _ v H') (congrArg some e) (KX ho hk)
  | _=>exact dz h
 | bool x=>
  refine kA h λh1 h=>?_;rw[EL h1]at ho
  erw [FG ho]
  cases y using AV.casesOn with
  | bool y=>exact gh (G:=λv H'=>r8 W d H _ _ _ v H') h zM
  | _=>exact dz h
 | str x=>
  refine nu h (λh1 h=>?_) λzz h=>kA h λh1 h=>?_
  ·rw[yb h1]at ho
   erw [FG ho]
   cases y using AV.casesOn with
   | str y=>exact kA h λhr h=>gh (G:=λv H'=>r8 W d H _ _ _ v H') h (uI hr)
   | _=>exact dz h
  ·rw[EO h1]at ho
   erw [FG ho]
   cases y using AV.casesOn with
   | int y=>exact kA h λhr h=>gh (G:=λv H'=>r8 W d H _ _ _ v H') h (Cp (of_decide_eq_true (ag.mp hr).1) (ag.mp hr).2)
   | _=>exact dz h
 | ref k=>
  refine kA h λh1 h=>?_;rw[yb h1]at ho
  erw [FG ho]
  exact zP h
 | _=>exact dz h
def wz(h:wW i n=some j):j<n/\n<=1000000/\((0<=i/\i=j)\/(i<0/\i+n=j)):=by
 unfold wW at h
 split at h
 ·cases h
 ·rename_i hr
  have hr:=fg hr
  split at h
  ·rename_i k
   split at h
   ·rename_i hk
    (replace h:=ae h;subst h)
    have:=cL.mp hk;exact eC this hr (.inl ⟨by simp,rfl⟩)
   ·cases h
  ·rename_i k
   split at h
   ·rename_i hk
    (replace h:=ae h;subst h)
    have:=cL.mp hk;exact eC (by exact(gj bf ay [(aJ ai l9,ay)] aR (pJ (dU this)))) hr (.inr ⟨by lia,Int.subNatNat_of_le this⟩)
   ·cases h
def yM(h:wW i n=some j):-2 ^ 63<=i/\i<2 ^ 63:=by
 obtain⟨h1,h2,⟨p,q⟩ | ⟨p,q⟩⟩:=wz h
 ·exact⟨by exact(eB [_] [_] 0 (.ik (-(2 ^ 63))) (.iv 0) (.hz (.ic ai) (.iv 0) .ho) aR (wR q)),by exact(eB [_] [_,_] 0 (.ip (.iv 0) (.ik 1)) (.ik (2 ^ 63)) (.hz (.iv 0) (.ic ai) (.hn bf ay (.hn ay cX .ho))) aR (wU q) h1 h2)⟩
 ·exact⟨by exact(eB [_] [_,_] 0 (.ik (-(2 ^ 63))) (.iv 0) (.hz (.ic ai) (.ip (.iv 0) (.ic ay)) (.hn ay cX .ho)) aR (wR q) h2),by exact(eB [_] [_,_] 0 (.ip (.iv 0) (.ik 1)) (.ik (2 ^ 63)) (.hz (.ip (.iv 0) (.ic ai)) (.ic ay) (.hn cN ai .ho)) aR (wU q) h1)⟩
def rE(h:wW i n=some j):seqIndex? i n=some j:=by
 refine kE (wz h) λh1 h2 h3=>?_;rcases h3 with⟨p,q⟩ | ⟨p,q⟩
 ·erw [(PySem.seqIndex_of p (by exact(eB [_] [_,_] 0 (.ip (.iv 0) (.ik 1)) (.ic ai) (.hz (.iv 0) (.ic ay) (.hn cN ai .ho)) aR (wU q) h1)))];congr 1;exact(bI (bO.mp (eB [_] [_,_] 0 (.ic ai) (.ic ay) (.hz (.ic ai) (.iv 0) (.hz (.iv 0) (.ic ay) .ho)) aR (wU (bU (eB [_] [_] 0 (.ik 0) (.iv 0) (.hz (.ic ai) (.iv 0) .ho) aR (wR q)))) (wU q))) (bO.mp (eB [_] [_,_] 0 (.ic ai) (.ic ay) (.hz (.ic ai) (.iv 0) (.hz (.iv 0) (.ic ay) .ho)) aR (wR q) (wR (bU (eB [_] [_] 0 (.ik 0) (.iv 0) (.hz (.ic ai) (.iv 0) .ho) aR (wR q)))))))
 ·erw [(PySem.seqIndex_neg p (by exact(eB [_] [_,_] 0 (.ig (.ic ai)) (.iv 0) (.hz (.ic ay) (.ip (.iv 0) (.ic ai)) .ho) aR (wR q))))];congr 1;exact(bI (bO.mp (eB [_] [_,_,_] 0 (.ic ai) (.ic ay) (.hz (.ic ai) (.ip (.iv 0) (.ic bF)) (.hz (.ip (.iv 0) (.ic bF)) (.ic ay) .ho)) aR (wU (bU (eB [_] [_,_] 0 (.ik 0) (.ip (.iv 0) (.ic ai)) (.hz (.ic ay) (.ip (.iv 0) (.ic ai)) .ho) aR (wR q)))) (wU q))) (bO.mp (eB [_] [_,_,_] 0 (.ic ai) (.ic ay) (.hz (.ic ai) (.ip (.iv 0) (.ic bF)) (.hz (.ip (.iv 0) (.ic bF)) (.ic ay) .ho)) aR (wR q) (wR (bU (eB [_] [_,_] 0 (.ik 0) (.ip (.iv 0) (.ic ai)) (.hz (.ic ay) (.ip (.iv 0) (.ic ai)) .ho) aR (wR q)))))))
abbrev pM:Expr->Bool
 | .Slice .. =>true
 | _=>false
def pk(h:pM slice=false)(o i:Value):subscripted slice false o i=operate [o,i] (getItem o i):=by
 cases slice using bD with
 | Slice zz zy zx zw=>exact nomatch h
 | _=>rfl
end
section
mutual
variable{A:Around}{B:BgT}{ρ:List Addr}{F:Raws}{s:Shared}{value slice:Expr}{i:Int}{t:Tok}{vs:List AV}{v:AV}{its:List Value}{l:Addr}
def yd(hs':∀o i,subscripted slice false o i=operate [o,i] (getItem o i))(hR:RM W B ρ F H s.heap)(hl:s.heap.IsList l its.toArray)(hr:VRs W B ρ vs its)(h:rO vs i=some v):wpAny W.M A (subscriptTail value slice (.ref l) (.int i t)) (PV W B ρ F s v H) fh s:=by
 refine jd h λj hj hv=>?_;refine aL (hr.get hv) λu hu r=>?_;have hlen:its.toArray.size=vs.length:=hr.length;have hu:its.toArray[j]? =some u:=by erw [dH];exact hu
 refine tail_any hl.typeIs slot_list_getitem.lookup ?_ (hs' _ _);obtain⟨h1,h2,⟨p,q⟩ | ⟨p,q⟩⟩:=wz hj
 ·exact wpAny_getItem_list hl p (by exact(eB [_] [_,_] 0 (.ip (.iv 0) (.ik 1)) (.ik (2 ^ 63)) (.hz (.iv 0) (.ic ai) (.hn bf ay (.hn ay cX .ho))) aR (wU q) h1 h2)) (by erw [q];exact hu) (d0 B ρ (.refl B ρ) hR (.refl s) r)
 ·exact wpAny_getItem_list_neg hl p (by erw [hlen];exact(eB [_] [_,_] 0 (.ig (.ic ai)) (.iv 0) (.hz (.ic ay) (.ip (.iv 0) (.ic ai)) .ho) aR (wR q))) (by exact(eB [_] [_,_] 0 (.ik (-(2 ^ 63))) (.iv 0) (.hz (.ic ai) (.ip (.iv 0) (.ic ay)) (.hn ay cX .ho)) aR (wR q) h2)) (by erw [hlen,q];exact hu) (d0 B ρ (.refl B ρ) hR (.refl s) r)
def HN(hs':∀o i,subscripted slice false o i=operate [o,i] (getItem o i))(hR:RM W B ρ F H s.heap)(hl:IsTup s.heap l its.toArray)(hr:VRs W B ρ vs its)(h:rO vs i=some v):wpAny W.M A (subscriptTail value slice (.ref l) (.int i t)) (PV W B ρ F s v H) fh s:=by
 refine jd h λj hj hv=>?_;refine aL (hr.get hv) λu hu r=>?_;have hlen:its.toArray.size=vs.length:=hr.length;have hu:its.toArray[j]? =some u:=by erw [dH];exact hu
 obtain⟨q3,q4⟩:=yM hj;exact tail_any hl.typeIs slot_tuple_getitem.lookup (PyProof.Rows.getItem_tuple hl q3 q4 (by erw [hlen];exact rE hj) hu (d0 B ρ (.refl B ρ) hR (.refl s) r)) (hs' _ _)
end
end
mutual
def KY{v:AV}(h:rN H x y=some v){value:Expr}(hs:pM slice=false):r8 W d H x y (subscriptTail value slice) v H:=λA B ρ F s a b hA hB hR ha hb=>mP h hb λi t h=>by
 have hs':=pk hs
 cases x using AV.casesOn with
 | str str=>
  obtain⟨t',e⟩:=mw ha
  erw [e]
  refine jd h λj hj h=>jV h λc hc e=>?_
  erw [<- e]
  have q2:=yM hj;refine tail_any (show s.TypeIs _ "str" from rfl) PySem.F.slot_str_getitem.lookup (P.getItem_str (c:=c) ?_ ?_ (sS (x:= [c]) hR rfl ⟨rfl,rfl,rfl⟩)) (hs' _ _)
  ·simp only[eO,decide_eq_false_iff_not];exact⟨jf.mpr q2.1,wN.mpr q2.2⟩
  ·erw [cy,rE hj]
   show(aN str).cps[j]? =some c
   erw [(show(aN str).cps=str.toArray from rfl),dH]
   exact hc
 | U zz=>refine gS (Dw ha) λa o its e h1 h2 h3=>?_;erw [e];exact HN hs' hR (xZ hR h1 h2) h3 h
 | a zz=>refine gS (sd ha) λa o its e h1 h2 h3=>?_;erw [e];exact yd hs' hR (nK hR h1 h2) h3 h
 | ref k=>
  refine aL (mT ha) λa e ha=>?_
  erw [e]
  refine jd h λvs h1 h=>?_;refine aL (eA hR h1 ha) λits p q=>?_;exact yd hs' hR p q h
 | _=>exact dz h
def MA{a b:Expr}{pos:Pos}{v:AV}(h:TE W d cx ls H a x aq)(h':TE W d cx ls aq b y aO)(hs:pM b=false)(hv:rN aO x y=some v):TE W d cx ls H (.Subscript a b pos) v aO:=by
 intro A B ρ F env s hA hB hE hF hR;refine Subscript_ (h.go hA hB hE hF hR λbZ br a bz cg dh cQ bX b9 dY=>h'.go hA dh hE cQ bX λfY d7 b dQ eD iJ jb eI fH gT=>?_);exact lu (KY hv hs A fY d7 F dQ a b hA iJ eI (dY.mono eD) gT) λu s' z=>(z.glue eD fH).glue cg b9
inductive TO(W:Wd)(d:Nat)(cx:CX)(ls:Ls)(H:Hp):Option Expr->Option AV->Hp->Prop
 | none:TO W d cx ls H none none H
 | some {e:Expr} {v:AV} {H':Hp}:TE W d cx ls H e v H'->TO W d cx ls H (some e) (some v) H'
inductive VRo(W:Wd)(B:BgT)(ρ:List Addr):Option AV->Value->Prop
 | none:VRo W B ρ none .none
 | some {v:AV} {u:Value}:VR W B ρ v u->VRo W B ρ (some v) u
def VRo.mono{B B':BgT}{ρ ρ':List Addr}(g:Grow B ρ B' ρ'){v:Option AV}{u:Value}(h:VRo W B ρ v u):VRo W B' ρ' v u:=by
 cases h using VRo.casesOn with
 | none=>exact .none
 | some r=>exact .some (r.mono g)
def TO.go{e:Option Expr}{v:Option AV}(h:TO W d cx ls H e v H'){B:BgT}{ρ:List Addr}{env:Env}(hA:AOk A d)(hB:gu W B)(hE:EnvOk cx env)(hF:o9 W B ρ F env cx ls)(hR:RM W B ρ F H s.heap)
  (k:∀B' ρ' u s',Grow B ρ B' ρ'->gu W B'->o9 W B' ρ' F env cx ls->RM W B' ρ' F H' s'.heap->Rest s s'->VRo W B' ρ' v u->Q u s'):wpAny W.M A (evalPart e env) Q fh s:=by
 cases h using TO.casesOn with
 | none=>exact bJ (k B ρ _ s (.refl B ρ) hB hF hR (.refl s) .none)
 | some h=>exact h.go hA hB hE hF hR λB' ρ' u s' g b f R r v=>k B' ρ' u s' g b f R r (.some v)
def Qp(a len:Nat):max (0:Int) (min (a:Int) (len:Int))=((min a len:Nat):Int):=by
 erw [(show min (a:Int) (len:Int)=((min a len:Nat):Int)from by omega)]
 exact Int.max_eq_right (fE _)
def sA(a b len:Nat):dM (some (a:Int)) (some (b:Int)) 1 len=dM (some ((min a len:Nat):Int)) (some ((max (min a len) (min b len):Nat):Int)) 1 len:=by
 have hn:∀n:Nat,¬ ((n:Int)<0):=λn=>jf.mpr (fE n);have h1:((1:Int) > 0)=True:=eq_true (Int.zero_lt_one);have e3:min (min a len) len=min a len:=iK (cE _ _);have e4:min (max (min a len) (min b len)) len=max (min a len) (min b len):=iK (wK.mpr ⟨cE _ _,cE _ _⟩);simp only[dM,hn,if_false,Qp,e3,e4,h1,if_true];by_cases hlt:min a len<=min b len
 ·erw [qk hlt];rfl
 ·have hlt:=ji hlt
  erw [Da hlt]
  simp only[PySem.sliceRange,h1,if_true]
  erw [if_neg (jf.mpr (bO.mpr hlt)),if_neg (o6 _)];rfl
def sI{α:Type}(l:List α)(a b:Nat):(l.drop (min a l.length)).take (max (min a l.length) (min b l.length)-min a l.length)=(l.take b).drop a:=by
 by_cases h:a<=l.length
 ·erw [iK h,List.drop_take]
  by_cases hb:b<=l.length
  ·erw [iK hb]
   by_cases hab:a<=b
   ·erw [qk hab];rfl
   ·erw [Da (ji hab),mR,rP (ji hab)];rfl
  ·erw [AL (ji hb),qk h,(List.take_of_length_le (by erw [d6];exact aw _)),(List.take_of_length_le (by erw [d6];exact t5 (ji hb) a))];rfl
 ·have h:=ji h
  erw [AL h,List.drop_length,List.take_nil,(lg (by erw [lW];exact aj (cE _ _) h))];rfl
def Az{v:Option AV}(h:mI n v=some k):(v=none/\k=n)\/v=some (.int (k:Int)):=by
 cases v using bb with
 | none=>exact .inl ⟨rfl,(ae h).symm⟩
 | some v=>cases v using AV.casesOn with
  | int i=>cases i using iu with
   | ofNat i=>exact .inr (by erw [<- ae h];rfl)
   | negSucc zz=>exact dz h
  | _=>exact dz h
def Cn(x:List Nat)(lo hi:Option (Int×Tok))(a b:Nat)(h1:(lo=none/\a=0)\/∃t,lo=some ((a:Int),t))(h2:(hi=none/\b=x.length)\/∃t,hi=some ((b:Int),t)):slicePicked (aN x) lo hi none=dM (some ((min a x.length:Nat):Int)) (some ((max (min a x.length) (min b x.length):Nat):Int)) 1 (aN x).length:=by
 unfold slicePicked
 erw [cy,<- sA]
 rcases h1 with⟨e,e'⟩ | ⟨t1,e⟩ <;> rcases h2 with⟨e2,e2'⟩ | ⟨t2,e2⟩ <;> rw[e,e2]
 ·erw [e',e2']
  show dM none none 1 _=_
  erw [StrLaws.sliceIdx_none_lo,StrLaws.sliceIdx_none_hi];rfl
 ·erw [e']
  show dM none _ 1 _=_;rw[StrLaws.sliceIdx_none_lo];rfl
 ·erw [e2']
  show dM _ none 1 _=_
  erw [StrLaws.sliceIdx_none_hi];rfl
 ·rfl
def zK(x:List Nat)(t:Tok)(lo hi:Option (Int×Tok))(a b:Nat)(h1:(lo=none/\a=0)\/∃t,lo=some ((a:Int),t))(h2:(hi=none/\b=x.length)\/∃t,hi=some ((b:Int),t))(hr:cF x.length=true)
  (h:∀t' tk,Q (.str (aN ((x.take b).drop a)) t') {s with toks:=tk}):(sliceMade (aN x) t lo hi none).post Q s:=by
 have e:=Cn x lo hi a b h1 h2;have m1:min a x.length<=max (min a x.length) (min b x.length):=iL _ _;have m2:max (min a x.length) (min b x.length)<=(aN x).length:=by erw [cy];exact wK.mpr ⟨cE _ _,cE _ _⟩
 have e2:=StrLaws.sliced_plain (aN x) (a:=min a x.length) (b:=max (min a x.length) (min b x.length)) m1 m2;rw[<- e]at e2;have e3:((aN x).cps.toList.drop (min a x.length)).take (max (min a x.length) (min b x.length)-min a x.length)=(x.take b).drop a:=sI x a b;unfold sliceMade
 split
 ·rename_i hc
  have hl:(slicePicked (aN x) lo hi none).length=x.length:=by simpa [cy]using hc
  rw[e,StrLaws.strSliceIndices_plain m1 m2,aK,oy]at hl;have:(x.take b).drop a=x:=by
   erw [<- e3,hl]
   show(x.drop (min a x.length)).take x.length=x
   have:min a x.length=0\/x.length=0:=by rw[cy]at m2;exact(.inl (bI (bO.mp (eB [] [_,_,_,_] 0 (.ic ai) (.ic (aG 0)) (.hn (aJ ay ai) bF (.hn bF cP (.hn cP ay .ho))) aR (pJ (dU (bO.mp (eB [] [_,_] 0 (.ic ai) (.ic ay) (.hn ai ay .ho) aR (iL _ _))))) m2 (lq hl))) (bO.mp (eB [] [_] 0 (.ic (aG 0)) (.ic ai) .ho aR))))
   rcases this with q | q
   ·erw [q,nD,qm];rfl
   ·erw [List.length_eq_zero_iff.mp q,List.drop_nil,List.take_nil];rfl
  exact this ▸h t s.toks
 ·simp only[Made.post]
  erw [e2,e3]
  refine⟨?_,h _ _⟩;show(aN ((x.take b).drop a)).length<=_
  erw [cy,d6,lW]
  exact aj (wI _ _) (aj (cE _ _) (aj (fg hr) (aj (ab rfl) dZ)))
set_option tactic.hygienic true in
theorem nG{B:BgT}{ρ:List Addr}{v:Option AV}{u:Value}(h:mI n v=some k)(r:VRo W B ρ v u):∃p:Option (Int×Tok),u=kK p/\((p=none/\k=n)\/∃t,p=some ((k:Int),t)):=by
 rcases Az h with⟨rfl,rfl⟩ | rfl
 ·cases r;exact bH none rfl (.inl ⟨rfl,rfl⟩)
 ·cases r with
  | some r=>cases r;rename_i t;exact bH (some (_,t)) rfl (.inr ⟨t,rfl⟩)
end
section
mutual
variable{n:Nat}
variable{A:Around}{B B':BgT}{ρ ρ':List Addr}{F:Raws}{rI s:Shared}{l hh:Option AV}{ul uh:Value}{v:AV}{p:Pos}{value:Expr}{lo hi:Option Expr}
def IF{i:Nat}{pl:Option (Int×Tok)}(e1:(pl=none/\i=0)\/∃t,pl=some ((i:Int),t)):(pl.map (·.1)).elim 0 (clipAt n)=min i n:=by
 rcases e1 with⟨e,e'⟩ | ⟨t,e⟩ <;> rw[e]
 ·erw [e',Nat.zero_min];rfl
 ·exact clipAt_nat ..
def IG{j:Nat}{ph:Option (Int×Tok)}(e1:(ph=none/\j=n)\/∃t,ph=some ((j:Int),t)):(ph.map (·.1)).elim n (clipAt n)=min j n:=by
 rcases e1 with⟨e,e'⟩ | ⟨t,e⟩ <;> rw[e]
 ·erw [e',Nat.min_self];rfl
 ·exact clipAt_nat ..
def Hx(a b:Nat):max a b-a=b-a:=by
 rcases Nat.le_total a b with h | h
 ·erw [qk h];rfl
 ·erw [Da h,mR,rP h];rfl
def Cb{x:List Nat}{t:Tok}(g:Grow B ρ B' ρ')(R:RM W B' ρ' F H s.heap)(r:Rest rI s)(hl:VRo W B' ρ' l ul)(hu:VRo W B' ρ' hh uh)(h:iw (.str x) l hh H=some (v,H')):
  wpAny W.M A (subscriptTail value (.Slice lo hi none p) (.str (aN x) t) (.ref s.heap.objs.size)) (PV W B ρ F rI v H') fh {s with heap:=s.heap.push {cls:= .type "slice",data:= .fields #[ul,uh, .none]}}:=by
 refine kA h λhr h=>jd h λi h1 h=>jV h λj h2 e=>?_
 erw [<- (aH e).1,<- (aH e).2]
 refine aL (nG h1 hl) λpl e e1=>?_;refine aL (nG h2 hu) λph e' e2=>?_
 erw [e,e']
 obtain⟨pS,nB⟩:=R.pushD {cls:= .type "slice",data:= .fields #[kK pl,kK ph, .none]};exact tail_any (show Shared.TypeIs _ _ "str" from rfl) PySem.F.slot_str_getitem.lookup (PySem.wpAny_getItem_str_slice (l:=pl) (u:=ph) (st:=none) (eF _ (dD _ rfl) rfl rfl) rfl (zK _ _ _ _ _ _ e1 e2 hr λt' tk=>(d0 _ _ (g.trans pS) nB (⟨r.1,r.2,r.3⟩) .str))) rfl
def xj{vs:List AV}{u:Value}(g:Grow B ρ B' ρ')(R:RM W B' ρ' F H s.heap)(r:Rest rI s)(hv:VR W B' ρ' (.a vs) u)(hl:VRo W B' ρ' l ul)(hu:VRo W B' ρ' hh uh)(h:iw (.a vs) l hh H=some (v,H')):
  wpAny W.M A (subscriptTail value (.Slice lo hi none p) u (.ref s.heap.objs.size)) (PV W B ρ F rI v H') fh {s with heap:=s.heap.push {cls:= .type "slice",data:= .fields #[ul,uh, .none]}}:=by
 refine kA h λhr h=>jd h λi h1 h=>jV h λj h2 e=>?_
 erw [<- (aH e).1,<- (aH e).2]
 refine aL (nG h1 hl) λpl e e1=>?_;refine aL (nG h2 hu) λph e' e2=>?_;refine gS (sd hv) λb o its e3 f1 f2 f3=>?_
 erw [e,e',e3]
 obtain⟨pS,nB⟩:=R.pushD {cls:= .type "slice",data:= .fields #[kK pl,kK ph, .none]};have hls:=nK (s:={s with heap:=s.heap.push {cls:= .type "slice",data:= .fields #[kK pl,kK ph, .none]}}) nB (pS.b _ _ f1) f2;have hlen:its.toArray.size=vs.length:=f3.length;refine tail_any (s:={s with heap:=s.heap.push {cls:= .type "slice",data:= .fields #[kK pl,kK ph, .none]}}) hls.typeIs slot_list_getitem.lookup (wpAny_getItem_list_slice (lo:=pl.map (·.1)) (hi:=ph.map (·.1)) (st:=none) hls (Heap.IsSliceOf.new ..) ?_ ?_ .none (by simp) ?_ ?_) rfl
 ·rcases e1 with⟨e,_⟩ | ⟨t,e⟩ <;> rw[e]
  ·exact .none
  ·exact .int _ _
 ·rcases e2 with⟨e,_⟩ | ⟨t,e⟩ <;> rw[e]
  ·exact .none
  ·exact .int _ _
 ·have e:slicePick its.toArray (pl.map (·.1)) (ph.map (·.1)) none=((its.take j).drop i).toArray:=by
   erw [slicePick_plain,<- sI its i j,IF e1,IG (n:=its.toArray.size) (hlen ▸e2)]
   congr 1
   show(its.drop (min i its.length)).take _=_
   congr 1
   exact(Hx _ _).symm
  erw [e]
  exact d0 _ _ ((g.trans pS).trans (.push _ _ _)) (nB.newList (((f3.mono pS).take j).drop i)) (⟨r.1,r.2,r.3⟩) (.ref (by erw [<- nB.len];simp))
 ·erw [hlen];exact aj (fg hr) (aj (ab rfl) dZ)
end
end
mutual
def F5{a:Expr}{lo hi:Option Expr}{p pos:Pos}{v:AV}{l h:Option AV}(ha:TE W d cx ls H a x aq)(hl:TO W d cx ls aq lo l aO)(hh:TO W d cx ls aO hi h dK)(hv:iw x l h dK=some (v,H')):TE W d cx ls H (.Subscript a (.Slice lo hi none p) pos) v H':=by
 intro A B ρ F env s hA hB hE hF hR;refine Subscript_ (ha.go hA hB hE hF hR λbZ br a bz cg dh cQ bX b9 dY=>wpAny_Slice (hl.go hA dh hE cQ bX λfY d7 ul dQ eD iJ jb eI fH gT=>hh.go hA iJ hE jb eI λnX j0 uh oA iy Ur CH jD lz qr=>bJ ?_))
 try dsimp only
 have Ng:=(dY.mono eD).mono iy
 cases x using AV.casesOn with
 | str x=>obtain⟨t,e⟩:=mw Ng;erw [e];exact Cb ((cg.trans eD).trans iy) jD ((b9.trans fH).trans lz) (gT.mono iy) qr hv
 | a vs=>exact xj ((cg.trans eD).trans iy) jD ((b9.trans fH).trans lz) Ng (gT.mono iy) qr hv
 | _=>exact dz hv
end
end
section
mutual
variable{B:BgT}{ρ:List Addr}{n:Nat}{v:AV}{vs:List AV}
variable{W:Wd}{d:Nat}{H H' aq aO dK:Hp}{cx:CX}{ls:Ls}
def yJ{M:Model}{h:Heap}(b:BI):lO M h (ve b):=by induction b using BI.casesOn <;> first | exact fT _ | exact oQ _
def Aa(i:Int):aa (toString i)=aN (dG i):=by
 cases i using iu with
 | ofNat n=>exact text_ofNat n
 | negSucc n=>
  have e:toString (B0 n)="-" ++Nat.repr (n+1):=rfl;have h2:aa (Nat.repr (n+1))=aN (bQ (n+1)):=text_ofNat (n+1)
  erw [e,Str.ofString_eq_toList,String.toList_append]
  rw[Str.ofString_eq_toList]at h2;have h3:(Nat.repr (n+1)).toList.map Char.toNat=bQ (n+1):=by simpa using congrArg (λw:Str=>w.cps.toList) h2
  erw [bp,h3]
  rfl
def jr(a b c:Int):0<=eN a b c:=by
 unfold eN
 split <;> split
 ·have:=Int.ediv_nonneg (a:=b-a-1) (b:=c) (by lia) (by lia);exact(eB [_] [] 0 (.ik 0) (.ip (.iv 0) (.ik 1)) (.hz (.ik 0) (.iv 0) .ho) aR this)
 ·exact(eB [] [] 0 (.ik 0) (.ik 0) .ho aR)
 ·have:=Int.ediv_nonneg (a:=a-b-1) (b:= -c) (by lia) (by lia);exact(eB [_] [] 0 (.ik 0) (.ip (.iv 0) (.ik 1)) (.hz (.ik 0) (.iv 0) .ho) aR this)
 ·exact(eB [] [] 0 (.ik 0) (.ik 0) .ho aR)
def E5{i:Int}(h:fQ i=true):i.natAbs.log2<1920:=by
 have:=kB h;unfold gV at this;by_cases q:i=0
 ·subst q;simp
 ·simp only[beq_iff_eq,q,if_false]at this;exact aj this (ab rfl)
def pD{F:Raws}{s:Shared}{u:Value}{s':Shared}(hR:RM W B ρ F H s.heap)(k:∀b o,s.heap.get? b=some o->s'.heap.get? b=some o)(r:Rest s s')(z:VR W B ρ v u):PV W B ρ F s v H u s':=(d0 B ρ (.refl B ρ) (hR.ext k) r z)
def tQ:∀(vs:List AV) (bs:List Bool) (us:List Value),lJ vs=some bs->VRs W B ρ vs us->us=bs.map .bool
 | [],bs,us,h,r=>by erw [vq r,<- ae h];rfl
 | v::vs,bs,us,h,r=>by
  refine dX (jl r) λu us' e r rs=>?_
  cases v using AV.casesOn with
  | bool b=>
   refine jV (show(lJ vs).map (b::·)=some bs from h) λcs hc e2=>?_
   erw [e,nY r,<- e2,tQ vs cs us' hc rs];rfl
  | _=>exact dz h
def Kl:∀{us:List Value},us.length=vs.length->(∀(j:Nat) (x:AV) (v:Value),vs[j]? =some x->us[j]? =some v->VR W B ρ x v)->VRs W B ρ vs us:=by
 induction vs with
 | nil=>intro us hl zz;erw [BZ hl];exact .nil
 | cons v vs ih=>
  intro us hl h
  cases us using au with
  | nil=>exact nomatch hl
  | cons u us=>exact .cons (h 0 v u rfl rfl) (ih (qZ hl) λj x y a b=>h (j+1) x y a b)
noncomputable abbrev q7(W:Wd)(d:Nat)(H H':Hp)(b:BI):Prop:= ∀(vs:List AV) (v:AV),BR b vs H=some (v,H')->Ge W d H vs (λus=>call (ve b) us) v H'
def zS(h:cF n=true):n<=ly:=aj (fg h) (aj (ab rfl) dZ)
def Ey(h:cF n=true):(n:Int)<2 ^ 63:=by
 have:=fg h;exact(eB [] [_] 0 (.ip (.ic ai) (.ik 1)) (.ik (2 ^ 63)) (.hn ai cX .ho) aR this)
def Mm:q7 W d H H' .abs:=λvs v h A B ρ F s us hA hB hR hv=>v1 h hv λx u r h=>mP h r λi t h=>gh h (call_abs_int λu tk=>(show(i.natAbs:Int)=if i<0 then -i else i by split <;> (first | lia | omega)) ▸hP hR rfl ⟨rfl,rfl,rfl⟩)
def Mk:q7 W d H H' .chr:=λvs v h A B ρ F s us hA hB hR hv=>v1 h hv λx u r h=>mP h r λi t h=>Lh h λn h=>kA h λhb h=>gh h (P.chr_of_int (by
  have:=cL.mp hb;simp only[eO,decide_eq_false_iff_not];exact⟨(λzz=>(Dj [] [_] (.hz (.ip (.ic ai) (.ik 1)) (.ik 0) .ho) aR zz)),(λzz=>(Dj [] [_] (.hz (.ip (.ik 1114111) (.ik 1)) (.ic ai) (.hn bf (aG 1114112) .ho)) aR zz this))⟩) (sS (x:= [_]) hR rfl ⟨rfl,rfl,rfl⟩))
def Mf:q7 W d H H' .ord:=λvs v h A B ρ F s us hA hB hR hv=>v1 h hv λx u r h=>sv h r λw t h=>zQ h λc h=>gh h (P.ord_of_char (hP hR rfl ⟨rfl,rfl,rfl⟩))
def Mi:q7 W d H H' .len:=λvs v h A B ρ F s us hA hB hR hv=>v1 h hv λx u r h=>jd h λn hn h=>kA h λhr h=>gh h (by
  cases x using AV.casesOn with
  | str w=>
   obtain⟨t,e⟩:=mw r;rw[<- show w.length=n from ae hn]at hr |-
   erw [e]
   exact P.len_str (by erw [cy];exact wN.mpr (Ey hr)) (cy w ▸hP hR rfl ⟨rfl,rfl,rfl⟩)
  | U ws=>
   refine gS (Dw r) λa o its e e1 e2 e3=>?_;have e4:its.toArray.size=n:=e3.length.trans (ae hn)
   erw [e]
   exact PyProof.Rows.len_tuple (xZ hR e1 e2) (e4 ▸Ey hr) (e4 ▸hP hR rfl ⟨rfl,rfl,rfl⟩)
  | a ws=>
   refine gS (sd r) λa o its e e1 e2 e3=>?_;have e4:its.toArray.size=n:=e3.length.trans (ae hn)
   erw [e]
   exact call_len_list (nK hR e1 e2) (e4 ▸Ey hr) (e4 ▸hP hR rfl ⟨rfl,rfl,rfl⟩)
  | ref k=>
   refine aL (mT r) λa e ha=>?_;refine jV hn λws h1 h2=>?_;refine aL (eA hR h1 ha) λits p q=>?_;have e4:its.toArray.size=n:=q.length.trans h2
   erw [e]
   exact call_len_list p (e4 ▸Ey hr) (e4 ▸hP hR rfl ⟨rfl,rfl,rfl⟩)
  | _=>exact dz hn)
def C6:q7 W d H H' .divmod:=λvs v h A B ρ F s us hA hB hR hv=>v2 h hv λx y u w r r' h=>mP h r λa t h=>mP h r' λb t' h=>kA h λhb h=>gh h (divmod_int (PI (ag.mp hb).2) (by
  obtain⟨g,R⟩:=hR.pushD {cls:= .type "tuple",data:= .seq #[.int (lh a b) s.toks, .int (gr a b) (s.toks+1)]};exact d0 _ _ g R (⟨rfl,rfl,rfl⟩) (.U kI ⟨rfl,0,rfl⟩ (.cons .int (.cons .int .nil)))) (.inl (tG (ag.mp hb).1)))
def Mj:q7 W d H H' .int:=λvs v h A B ρ F s us hA hB hR hv=>v1 h hv λx u r h=>Pv h r λb h=>gh h (call_int_bool (hP (i:=yK b) hR rfl ⟨rfl,rfl,rfl⟩))
def Cm{a c:Int}{acc:Array Value}(h1:acc.size=n)(h2:∀(j:Nat) (v:Value),acc[j]? =some v->∃t,v=Value.int (a+(j:Int)*c) t):VRs W B ρ ((cR n).map λi:Nat=>AV.int (a+(i:Int)*c)) acc.toList:=by
 refine Kl (by simp[h1]) λj x v q1 q2=>?_;obtain⟨t,e⟩:=h2 j v (by simpa using q2);rw[eu]at q1;refine jV q1 λk hk e2=>?_;have hj:j=k:=by
  obtain⟨p,q⟩:=aT.mp hk
  simpa using q
 erw [e,<- e2,hj]
 exact .int
def IL:q7 W d H H' .list:=λvs v h A B ρ F s us hA hB hR hv=>v1 h hv λx u r h=>Qf h r λa b c l o e1 e2 h=>kA h λhc h=>gh h (by
  obtain⟨h1,h2⟩:=ag.mp hc;refine t9 e2 λt t' t'' e=>?_;rw[e]at e1;have hn:eN a b c=((g9 a b c:Nat):Int):=(bU (jr a b c)).symm;have hr:=fg h1;refine call_list_range hA.handled (hR.keep _ _ e1) h2 hn (by exact aj hr (ab rfl)) λh' tk acc' c' hk hS hacc=>?_;have hg:=hR.newCell (h':=h') (a:=s.heap.objs.size) (.list (n:=c') (Cm hacc.1 hacc.2)) λrs S=>S.allocM (bP (aw _)) hk (by erw [hS];rfl);exact d0 _ _ hg.1 hg.2 (⟨rfl,rfl,rfl⟩) (.ref (by erw [<- hR.len];simp)))
def Mh:q7 W d H H' .max:=λvs v h A B ρ F s us hA hB hR hv=>v2 h hv λx y u w r r' h=>mP h r λa t h=>mP h r' λb t' h=>gh h (max_two_ints hA.handled λh' tk hk=>by
  split
  ·exact pD hR hk ⟨rfl,rfl,rfl⟩ .int
  ·exact pD hR hk ⟨rfl,rfl,rfl⟩ .int)
def Mg:q7 W d H H' .min:=λvs v h A B ρ F s us hA hB hR hv=>v2 h hv λx y u w r r' h=>mP h r λa t h=>mP h r' λb t' h=>gh h (min_two_ints hA.handled λh' tk hk=>by
  split
  ·exact pD hR hk ⟨rfl,rfl,rfl⟩ .int
  ·exact pD hR hk ⟨rfl,rfl,rfl⟩ .int)
def Me:q7 W d H H' .str:=λvs v h A B ρ F s us hA hB hR hv=>v1 h hv λx u r h=>mP h r λi t h=>kA h λhb h=>gh h (P.str_of_int (E5 hb) (Aa i ▸sS hR rfl ⟨rfl,rfl,rfl⟩))
def FJ:q7 W d H H' .tuple:=λvs v h A B ρ F s us hA hB hR hv=>v1 h hv λx u r h=>zF h r λk a ha h=>jd h λws h1 h=>kA h λhb h=>gh h (by
  refine aL (eA hR h1 ha) λits p q=>?_;have e4:its.toArray.size=ws.length:=q.length;refine call_tuple_list p (λh' hk=>?_) (e4 ▸zS hb);obtain⟨g,R⟩:=(hR.ext hk).pushD {cls:= .type "tuple",data:= .seq its.toArray};exact d0 _ _ g R (⟨rfl,rfl,rfl⟩) (.U kI ⟨rfl,0,rfl⟩ (q.mono g)))
def FW(bs:List Bool):(cR (bs.map Value.bool).toArray.size).all (λi=>bs.getD i true)=bs.all id:=by
 rw[Bool.eq_iff_iff,aS,aS];constructor
 ·intro h x hx;obtain⟨i,hi,xq1⟩:=List.getElem_of_mem hx;subst xq1;have:=h i (by simpa using hi);simpa [fc,hi]using this
 ·intro h i hi;have hi':i<bs.length:=by simpa using hi
  have:=h bs[i] (List.getElem_mem _);simpa [fc,hi']using this
def Ml:q7 W d H H' .all:=λvs v h A B ρ F s us hA hB hR hv=>v1 h hv λx u r h=>zF h r λk ax ha h=>jd h λxs hx h=>jV h λbs hbs e=>by
  refine aL (eA hR hx ha) λits p q=>?_;rw[tQ _ _ _ hbs q]at p
  erw [<- (aH e).1,<- (aH e).2]
  refine call_all_walkS (wpAny_pyIter_list p ?_);have fr:s.heap.get? s.heap.objs.size=none:=bP (aw _);have hne:ax≠s.heap.objs.size:=λe=>by
   refine aL p λo ho zz=>?_
   rw[e,fr]at ho;exact dz ho
  have k0:∀b o,s.heap.get? b=some o->(s.heap.push {cls:= .type "list_iterator",data:= .fields #[.ref ax, .int 0 0]}).get? b=some o:=λb o e=>cG _ e;refine QC _ _ _ _ _ _ _ (λi=>bs.getD i true) rfl ((Walks.list (A:=A.in1) hA.handled s.heap.objs.size ax hne (bs.map Value.bool).toArray).toS) (⟨⟨_,dD _ rfl,rfl,rfl⟩,aL p λo ho z=>⟨o,k0 _ _ ho,z⟩⟩) (λi v s' Q' E' hv hQ=>?_) (λs' M=>?_)
  ·try dsimp only at hv
   rw[dH,eu]at hv;refine jV hv λb hb e=>?_
   erw [<- e]
   refine wpAny_truthy_bool ?_
   try dsimp only at hQ
   rw[fc,hb]at hQ;exact hQ
  ·erw [FW]
   exact pD hR (λb o e=>M.heap b o (λq=>by rw[fD.mp q,fr]at e;exact dz e) (k0 _ _ e)) ⟨M.gens,M.drawn,M.os⟩ .bool
def FK:q7 W d H H' .range:=λvs v h A B ρ F s us hA hB hR hv=>by
 cases vs using au with
 | nil=>exact dz h
 | cons x vs=>
  refine dX (jl hv) λu us' e r hv=>?_
  erw [e]
  refine mP (show fL x _=some (v,H')from h) r λa t h=>?_
  cases vs using au with
  | nil=>
   erw [vq hv]
   refine gh h (call_range_1 ?_);obtain⟨g,R⟩:=hR.pushD {cls:= .type "range",data:= .fields #[.int 0 s.toks, .int a t, .int 1 (s.toks+1)]};exact d0 _ _ g R (⟨rfl,rfl,rfl⟩) (.rng kI (HQ _ _ _ rfl))
  | cons y vs=>
   refine dX (jl hv) λu' us'' e r' hv=>?_
   erw [e]
   refine mP (show fL y _=some (v,H')from h) r' λb t' h=>?_
   cases vs using au with
   | nil=>
    erw [vq hv]
    refine gh h (call_range_2 ?_);obtain⟨g,R⟩:=hR.pushD {cls:= .type "range",data:= .fields #[.int a t, .int b t', .int 1 s.toks]};exact d0 _ _ g R (⟨rfl,rfl,rfl⟩) (.rng kI (HQ _ _ _ rfl))
   | cons z vs=>
    refine dX (jl hv) λu'' us'' e r'' hv=>?_
    erw [e]
    refine v0 (G:=λvs=>wpAny W.M A (call (ve .range) (.int a t:: .int b t'::u''::vs)) (PV W B ρ F s v H') fh s) h hv λh=>mP h r'' λc t'' h=>kA h λhb h=>gh h (call_range_3 (PI (ag.mp hb).2) ?_ (.inl (tG (ag.mp hb).1)));obtain⟨g,R⟩:=hR.pushD {cls:= .type "range",data:= .fields #[.int a t, .int b t', .int c t'']};exact d0 _ _ g R (⟨rfl,rfl,rfl⟩) (.rng kI (HQ _ _ _ rfl))
def NQ{b:BI}(h:BR b vs H=some (v,H')):Ge W d H vs (λus=>call (ve b) us) v H':=by
 cases b using BI.casesOn with
 | abs=>exact Mm _ _ h
 | chr=>exact Mk _ _ h
 | ord=>exact Mf _ _ h
 | len=>exact Mi _ _ h
 | divmod=>exact C6 _ _ h
 | int=>exact Mj _ _ h
 | list=>exact IL _ _ h
 | max=>exact Mh _ _ h
 | min=>exact Mg _ _ h
 | str=>exact Me _ _ h
 | tuple=>exact FJ _ _ h
 | all=>exact Ml _ _ h
 | range=>exact FK _ _ h
end
end
end Mine.Internal
end
section
open PySem PySem.Calls PyProof.Rows PySem.W
open Builtin Builtin.Str
namespace Mine.Internal
mutual
variable{c:Nat}
def sV:∀{l:List Nat},(∀i:Nat,l[i]?≠some c)->gf c l=none
 | [],_=>rfl
 | x::r,h=>by
  unfold gf;have h0:x≠c:=λe=>h 0 (by simp[e]);have:aW x c=false:=by cases q:aW x c;rfl;exact absurd (aV q) h0
  erw [this]
  try dsimp only
  erw [(sV (l:=r) λi=>by simpa using h (i+1))];rfl
def sU:∀{l:List Nat} {i:Nat},l[i]? =some c->(∀k,k<i->l[k]?≠some c)->gf c l=some i
 | [],i,h,_=>by simp at h
 | x::r,0,h,_=>by
  simp at h;subst h;unfold gf
  erw [fV];rfl
 | x::r,i+1,h,g=>by
  unfold gf;have h0:x≠c:=λe=>g 0 (by exact(cz (eS (aG 0)) bf [] aR)) (by simp[e]);have:aW x c=false:=by cases q:aW x c;rfl;exact absurd (aV q) h0
  erw [this]
  try dsimp only
  erw [(sU (l:=r) (i:=i) (by simpa using h) λk hk=>by simpa using g (k+1) (by exact(bE (eS bf) cN [(bf,ay)] aR hk)))];rfl
def wA(s:List Nat)(c i:Nat):StrLaws.At (aN s) (aN [c]) (aN s).length i ↔ s[i]? =some c:=StrLaws.subAt_one (aN s) c i
def vS(s:List Nat)(c lo:Nat):match gf c (s.drop lo)with
  | some j=> ∃r,occurrences (aN s) (aN [c]) lo (aN s).length 1=(lo+j)::r
  | none=>occurrences (aN s) (aN [c]) lo (aN s).length 1= []:=by
 rcases StrLaws.occ_head_from (aN s) (aN [c]) lo 1 (aw 1)with⟨h0,hn⟩ | ⟨k,r,h0,hlo,hk,hn⟩
 ·erw [(sV (l:=s.drop lo) λi q=>hn (lo+i) (by exact(bE ai (aJ ai ay) [] aR)) ((wA s c _).mpr (by simpa using q)))]
  exact h0
 ·have hm:=(wA s c k).mp hk;obtain⟨j,rfl⟩:∃j,k=lo+j:=⟨k-lo,by exact(bI (gj ai (aJ ay bF) [(ai,aJ bF ay)] aR (tg _ _)) (gj (aJ ai ay) bF [(aJ ay ai,bF)] aR (pJ (dU hlo))))⟩
  erw [(sU (l:=s.drop lo) (i:=j) (by simpa using hm) λq hq e=>hn (lo+q) (by exact(bE ai (aJ ai ay) [] aR)) (by exact(gj (eS (aJ ai ay)) (aJ ai bF) [(cN,bF)] aR hq)) ((wA s c _).mpr (by simpa using e)))]
  exact⟨r,h0⟩
def zE(s:List Nat)(c:Nat):Txt.rstripChars (aN s) (aN [c])=aN (nP c s):=by
 refine(PyProof.Rows.stripBy_eq _ _ _ _).trans (Str.ext' (q8 ?_))
 erw [StrLaws.strSub_toList]
 unfold stripHi stripLo nP;have hg:((aN [c]).cps.contains:Nat->Bool)=aW c:=by
  funext x
  show(#[c]:Array Nat).contains x=aW c x
  have e:(#[c]:Array Nat).contains x=(x==c):=by simp;rfl
  erw [e]
  cases q:aW c x with
  | true=>erw [aV q];simp
  | false=>rw[beq_eq_false_iff_ne];intro e;rw[e,fV]at q;cases q
 erw [hg]
 simp only[if_true,fF,if_false,nD,Nat.sub_zero];generalize hf:aW c=f;have e:(aN s).length=s.length:=cy s;have key:∀l:List Nat,l.reverse.take (l.length-(l.takeWhile f).length)=(l.dropWhile f).reverse:=by
  intro l
  have h1:l.takeWhile f++l.dropWhile f=l:=List.takeWhile_append_dropWhile
  have h2:l.length-(l.takeWhile f).length=(l.dropWhile f).reverse.length:=by
   have:=congrArg je h1
   rw[af]at this
   erw [fR];exact(bI (gU ai ay [(aJ ai bF,cP),(cP,aJ bF ay)] aR (pJ (dU (gj ai ay [(aJ ai bF,ay)] aR (pJ this)))) (lq this)) (gU ai ay [(aJ bF ai,cP),(cP,aJ ay bF)] aR (pJ this) (tg _ _)))
  erw [h2]
  conv=>lhs;rw[<- h1,List.reverse_append]
  simp
 have:=key s.reverse;simp only[List.reverse_reverse,fR]at this
 erw [e]
 exact this
def rh:∀{p:List Nat},c∉p->eY c p= [p]
 | [],_=>rfl
 | x::r,h=>by
  have h0:x≠c:=λe=>h (by simp[e]);have:aW x c=false:=by cases q:aW x c;rfl;exact absurd (aV q) h0
  unfold eY
  erw [this,(rh (p:=r) λq=>h (.tail _ q))];rfl
def sH:∀{p q:List Nat},c∉p->eY c (p++c::q)=p::eY c q
 | [],q,_=>by
  show eY c (c::q)=_
  rewrite [eY];erw [fV];rfl
 | x::r,q,h=>by
  have h0:x≠c:=λe=>h (by simp[e]);have:aW x c=false:=by cases q:aW x c;rfl;exact absurd (aV q) h0
  show eY c (x::(r++c::q))=_
  erw [eY.eq_def]
  try dsimp only
  erw [this,(sH (p:=r) λq=>h (.tail _ q))];rfl
def rg:∀{ps:List Str},ps≠ []->(∀p∈ps,c∉p.cps.toList)->eY c (qj (aN [c]) ps).cps.toList=ps.map (·.cps.toList)
 | [],h,_=>absurd rfl h
 | [p],_,h=>rh (h p (.head _))
 | p::q::r,_,h=>by
  show eY c (p++aN [c]++qj (aN [c]) (q::r)).cps.toList=_
  erw [tX,tX,uu,uu]
  show eY c (p.cps.toList++ [c]++_)=_
  erw [aA,List.singleton_append,sH (h p (.head _)),(rg (by simp) λp hp=>h p (.tail _ hp))]
  rfl
def xi(s:List Nat)(c:Nat):Txt.split (aN s) (aN [c])≠ []:=λe=>by
 have:=PyProof.Rows.split_len (aN s) c;rw[show Txt.split (aN s) ⟨#[c]⟩= []from e]at this;have h2:0<=cnt c (aN s).cps.toList:=by
  exact countIn_zero_le _ _
 have h3:(0:Int)=1+cnt c (aN s).cps.toList:=this;rw[show(1:Int)+cnt c (aN s).cps.toList=cnt c (aN s).cps.toList+1 from Int.add_comm _ _]at h3;exact absurd h3 (Int.ne_of_lt (Int.lt_add_one_of_le h2))
def Ca(s:List Nat)(c:Nat):(Txt.split (aN s) (aN [c])).map (·.cps.toList)=eY c s:=by
 have h:=rg (c:=c) (xi s c) (StrLaws.split_free (aN s) c);rw[StrLaws.join_split]at h;exact h.symm
def uP{z:List Nat}:∀{ps:List Str},ps≠ []->(∀p∈ps,c∉p.cps.toList)->(qj (aN z) ps).cps.toList=du c z (qj (aN [c]) ps).cps.toList
 | [],h,_=>absurd rfl h
 | [p],_,h=>(replL_free (h p (.head _))).symm
 | p::q::r,_,h=>by
  show(p++aN z++qj (aN z) (q::r)).cps.toList=du c z (p++aN [c]++qj (aN [c]) (q::r)).cps.toList;simp only[tX,uu]
  erw [(uP (ps:=q::r) (by simp) λp hp=>h p (.tail _ hp))]
  show p.cps.toList++z++_=du c z (p.cps.toList++ [c]++_)
  erw [aA,aA,List.singleton_append,replL_app (h p (.head _))];rfl
where
 replL_free {c:Nat} {z:List Nat}:∀{p:List Nat},c∉p->du c z p=p
  | [],_=>rfl
  | x::r,h=>by
   have h0:x≠c:=λe=>h (by simp[e]);have:aW x c=false:=by cases q:aW x c;rfl;exact absurd (aV q) h0
   unfold du
   erw [this,(replL_free (p:=r) λq=>h (.tail _ q))];rfl
 replL_app {c:Nat} {z:List Nat}:∀{p q:List Nat},c∉p->du c z (p++c::q)=p++(z++du c z q)
  | [],q,_=>by
   show du c z (c::q)=_
   rewrite [du];erw [fV];rfl
  | x::r,q,h=>by
   have h0:x≠c:=λe=>h (by simp[e]);have:aW x c=false:=by cases q:aW x c;rfl;exact absurd (aV q) h0
   show du c z (x::(r++c::q))=_
   rewrite [du];erw [this]
   try dsimp only
   erw [(replL_app (p:=r) λq=>h (.tail _ q))];rfl
def xq(s z:List Nat)(c:Nat):Txt.replace (aN s) (aN [c]) (aN z)=aN (du c z s):=by
 have h:=StrLaws.replace_one (aN s) (aN z) c;refine h.trans (Str.ext' (q8 ?_));have h2:=uP (c:=c) (z:=z) (xi s c) (StrLaws.split_free (aN s) c);rw[StrLaws.join_split]at h2;exact h2
def Bv:∀{s y:List Nat},xO s=some y->(∀c∈s,c<128)/\y=s.map lo1
 | [],y,h=>by(replace h:=ae h;subst h);simp
 | x::r,y,h=>by
  unfold xO at h
  split at h
  ·cases h
  ·rename_i hb
   refine aL (bK.mp h) λz hz xq1=>?_;subst xq1;obtain⟨h1,xq2⟩:=Bv hz;subst xq2;have:=cL.mp hb;refine⟨λc hc=>?_,?_⟩
   ·rcases aQ.mp hc with rfl | hc
    ·exact this
    ·exact h1 c hc
   ·erw [bk]
    congr 1;unfold lo1
    split
    ·rename_i q
     rw[cv]at q
     erw [if_pos ⟨ab q.1,ab q.2⟩];rfl
    ·rename_i q
     rw[if_neg];intro ⟨a,b⟩;rw[rQ a,rQ b]at q;cases q
def Cv{s y:List Nat}(h:xO s=some y):Txt.lower (aN s)=aN y:=by
 obtain⟨h1,xq3⟩:=Bv h;subst xq3;refine(lower_ascii (x:=aN s) (by simpa [aN]using h1)).trans ?_;simp[aN]
def ti(sep:List Nat):∀xs:List (List Nat),qj (aN sep) (xs.map aN)=aN (oe sep xs)
 | []=>rfl
 | [x]=>rfl
 | x::y::r=>by
  show aN x++aN sep++qj (aN sep) ((y::r).map aN)=_
  erw [ti sep (y::r)]
  exact Str.ext' (q8 (by simp[tX,oe,aN]))
end
end Mine.Internal
end
section
open PySem PySem.Calls PyProof.Rows PySem.W
namespace Mine.Internal
mutual
abbrev Bq:Nat->Str
 | 0=>"append" | 1=>"pop" | 2=>"get" | 3=>"bit_length" | 4=>"find" | 5=>"index" | 6=>"join" | 7=>"lower" | 8=>"replace" | 9=>"rstrip" | _=>"split"
abbrev zV:Nat->String
 | 0=>"list.append" | 1=>"list.pop" | 2=>"dict.get" | 3=>"int.bit_length" | 4=>"str.find" | 5=>"str.index" | 6=>"str.join" | 7=>"str.lower" | 8=>"str.replace" | 9=>"str.rstrip" | _=>"str.split"
structure Wd.Cl(W:Wd):Prop where
 nmI:∀(i j:Nat) (x:Str),W.nm[i]? =some x->W.nm[j]? =some x->i=j
 nmB:∀m,m<=10->W.nm[m]? =some (Bq m)
 fld:∀(c f:Nat) (C:Addr) (n:Str),wQ W.P c f=true->W.cat c=some C->W.nm[f]? =some n->Ah W.K C n=true
 meth:∀(c m f:Nat) (C:Addr) (n:Str),((W.P.clss[c]?).bind λC=>C.meths.lookup m)=some f->W.cat c=some C->W.nm[m]? =some n->∃fa,W.fa[f]? =some fa/\Br W.K C n fa=true
 sys:∃o,W.base.get? sysModules=some o
end
section
mutual
variable{f:Nat}{n x name:Str}{fs:List (Nat×AV)}{v:AV}{s:Shared}{t:Tok}{u:Value}{C dx:Addr}
variable{W:Wd}{d:Nat}{H H' aq aO dK:Hp}{cx:CX}{ls:Ls}{B:BgT}{ρ:List Addr}
def Lg{a b:Nat}(h:a≠b):aW a b=false:=by
 cases q:aW a b with
 | false=>rfl
 | true=>exact absurd (aV q) h
def EntAre.noRef{es:List DictEntry}(r:EntAre W B ρ fs es):es.any (·.refKey)=false:=
 EntAre.rec (motive:=λzz es zy=>es.any (·.refKey)=false) rfl (λzz zy zx ih=>by erw [oY,ih];rfl) r
def ya(Cl:W.Cl){g:Nat}(h:f≠g)(hn:W.nm[g]? =some n)(hx:W.nm[f]? =some x):(AF n t).isStr x=false:=by
 show(n==x)=false;rw[beq_eq_false_iff_ne];intro e;subst e;exact h (Cl.nmI f g n hx hn)
def tn:(AF n t).isStr n=true:=by show(n==n)=true;simp
def EntAre.get(Cl:W.Cl)(hx:W.nm[f]? =some x){es:List DictEntry}(r:EntAre W B ρ fs es):
  match jw f fs with
  | some v=> ∃u,VR W B ρ v u/\getL x es=some (some u)
  | none=>es.find? (·.key.isStr x)=none:=by
 induction r with
 | nil=>rfl
 | @cons g n _ _ _ t _ _ hn hv r ih=>
  by_cases e:g=f
  ·subst e;rw[hx]at hn;(replace hn:=ae hn;subst hn);unfold jw
   erw [fV]
   refine bH _ hv ?_;unfold getL
   erw [rF]
   simp only[tn]
  ·unfold jw
   erw [Lg e]
   have e':=ya Cl (t:=t) (λq=>e q.symm) hn hx
   try dsimp only
   split <;> rename_i q <;> rw[q]at ih
   ·refine aL ih λu hu hl=>?_;refine bH u hu ?_;unfold getL at hl |-
    erw [rF]
    simp only[e'];have:∀h u,(⟨h, .str n t,u⟩:DictEntry).refKey=false:=λ_ _=>rfl
    erw [oY,this,Bool.false_or]
    exact hl
   ·erw [rF]
    simp only[e'];exact ih
def EntAre.getNone(Cl:W.Cl)(hx:W.nm[f]? =some x){es:List DictEntry}(h:EntAre W B ρ fs es)(hg:jw f fs=none):getL x es=some none:=by
 have:=h.get Cl hx;rw[hg]at this;unfold getL
 erw [this,h.noRef]
 rfl
def EntAre.isSome(Cl:W.Cl)(hx:W.nm[f]? =some x){es:List DictEntry}(h:EntAre W B ρ fs es):(getL x es).isSome=true:=by
 cases e:jw f fs with
 | none=>erw [h.getNone Cl hx e];rfl
 | some v=>have:=h.get Cl hx;rw[e]at this;refine aL this λu zz q=>?_;erw [q];rfl
def EntAre.put(Cl:W.Cl){f:Nat}(hx:W.nm[f]? =some x)(hv:VR W B ρ v u)(hsh:Int)(t:Tok):∀{fs:List (Nat×AV)} {es:List DictEntry},EntAre W B ρ fs es->
  EntAre W B ρ (oH f v fs) (putL x hsh (.str x t) u es)
 | _,_, .nil=> .cons hx hv .nil
 | _,_, .cons (f:=g) (n:=n) (t:=t') hn hw r=>by
  by_cases e:g=f
  ·subst e;rw[hx]at hn;(replace hn:=ae hn;subst hn);unfold oH putL
   erw [fV]
   simp only[tn,if_true];exact .cons hx hv r
  ·unfold oH putL
   erw [Lg e]
   have e':=ya Cl (t:=t') (λq=>e q.symm) hn hx;simp only[e',fF,if_false];exact .cons hn hw (r.put Cl hx hv hsh t)
def EntAre.length:∀{fs:List (Nat×AV)} {es:List DictEntry},EntAre W B ρ fs es->es.length=fs.length
 | _,_, .nil=>rfl
 | _,_, .cons _ _ r=>by erw [aI,aI,r.length];rfl
def xu(name:Str)(hsh:Int)(k v:Value):∀es:List DictEntry,(putL name hsh k v es).length<=es.length+1
 | []=>aw _
 | e::r=>by
  have:=xu name hsh k v r;unfold putL;split <;> simp only[aI] <;> (first | lia | omega)
def we{A:Around}{E:Value->Shared->Prop}{x:Addr}{es:List DictEntry}{n:Nat}{v:Value}{Q:Value->Shared->Prop}(X:W.K.In s.heap)
  (hx:s.heap.get? x=some (instObj C dx))(hdx:s.heap.get? dx=some (dictOf es n))(hf:Ah W.K C name=true)(hl:getL name es=some (some v))(hh:handedIn v=true)(h:Q v {s with toks:=s.toks+1}):
  wpAny W.M A (getAttr (.ref x) name true) Q E s:=by
 simp only[Ah,cv,beq_iff_eq]at hf;obtain⟨xq1,h5⟩:=hf;obtain⟨xq2,h4⟩:=xq1;obtain⟨xq3,h3⟩:=xq2;obtain⟨h1,h2⟩:=xq3;exact get_value X ⟨hx,rfl,rfl,hdx⟩ (plainGet_of h1).1 (findObj_own (od:=dictOf es n) h2 h3 rfl hl) hh h
set_option tactic.hygienic true in
theorem vK{A:Around}{E:Value->Shared->Prop}{x:Addr}{es:List DictEntry}{n:Nat}{v:Value}{Q:Unit->Shared->Prop}(X:W.K.In s.heap)
  (hx:s.heap.get? x=some (instObj C dx))(hdx:s.heap.get? dx=some (dictOf es n))(hf:Ah W.K C name=true)(hl:(getL name es).isSome=true)(hz:es.length<=900)
  (h:∀h' hsh tk tk',fe dx s.heap h'->h'.get? dx=some (dictOf (putL name hsh (.str name tk) v es) (putN name es n))->Q () {s with heap:=h',toks:=tk'}):
  wpAny W.M A (setAttr (.ref x) name v) Q E s:=by
 simp only[Ah,cv,beq_iff_eq]at hf;obtain⟨xq4,h5⟩:=hf;obtain⟨xq5,h4⟩:=xq4;obtain⟨xq6,h3⟩:=xq5;obtain⟨h1,h2⟩:=xq6;have I:InstAt s.heap x (instObj C dx) C (some (dictOf es n)):=⟨hx,rfl,rfl,hdx⟩;refine set_plain X I h4 ?_;have ht:takerIn W.K C name=some none:=by unfold takerIn;erw [h3];rfl
 refine osa_open (s:={s with toks:=s.toks+1}) X I h5 ht λb=>?_;refine aL (any_some h2) λcd hc hd'=>?_
 try dsimp only
 refine aF (bJ (aF (aF (wpAny_loadPart hx (aF (Looks.here (s:={s with toks:=s.toks+1}) (looks_clsIn X hc) ?_))))))
 erw [hd']
 refine bJ (a:=some dx) (aF (bJ (aF ?_)));unfold nsSet;refine aF (aF (wpAny_askSetting (bJ (aF (wpAny_mkText (aF (wpAny_loadPart hdx ?_)))))))
 try dsimp only
 have c:(!es.toArray.any (·.key.isStr name) && es.toArray.any (·.refKey))=false:=by
  erw [<- Array.any_toList,<- Array.any_toList]
  unfold getL at hl
  split at hl
  ·rename_i en he
   erw [List.any_eq_true.mpr (bH en (List.mem_of_find?_eq_some he) (List.find?_some he))];rfl
  ·split at hl
   ·cases hl
   ·rename_i z;rw[Bool.not_eq_true]at z;erw [z,Bool.and_false];rfl
 erw [aRefKeyMayBeTheName_at,c]
 have hu:=rS (Obj.putName name (PyData.keyHash W.w.params name) (.str name (s.toks+1)) v) hdx (by erw [putName_dict];rfl);rw[putName_dict]at hu;refine wpAny_updatePart hdx ?_;refine aF (wpAny_lookBehind hu (pastItsLine_dict (by
  have:=xu name (PyData.keyHash W.w.params name) (.str name (s.toks+1)) v es
  erw [List.size_toArray,sizeLine_eq];exact(bE ai (eS (aG 16777216)) [(ai,cN),(ay,aG 900)] aR this hz))) ?_);exact bJ (h _ _ _ _ (ur ..) hu)
def Hi(W1:W.Top)(Cl:W.Cl){x:AV}(hn:W.nm[f]? =some n)(h:vf W.P H x f=some v):M8 W d H x (λu=>getAttr u n true) λB ρ F s=>PV W B ρ F s v H:=λA B ρ F s u hA hB hR hv=>zF h hv λk a ha h=>jd h λc hc h=>by
 cases c using Cell.casesOn with
 | n c fs=>
  refine kA h λho h=>?_;refine w1 (hR.instA ha hc) λdx C es m e2 e3 e4 e5 zz=>?_;have g:=e5.get Cl hn;rw[h]at g;refine aL g λu hu hl=>?_;exact we (W1.K (hR.base hB)) e3 e4 (Cl.fld _ _ _ _ ho e2 hn) hl hu.handed (d0 B ρ (.refl B ρ) hR (⟨rfl,rfl,rfl⟩) hu)
 | _=>exact dz h
def I3(W1:W.Top)(Cl:W.Cl){e:Expr}{pos:Pos}{x:AV}(hp:iU e=true)(hn:W.nm[f]? =some n)(h:TE W d cx ls H e x aq)(ha:vf W.P aq x f=some v):TE W d cx ls H (.Attribute e n pos) v aq:=by
 intro A B ρ F env s hA hB hE hF hR;refine Attribute_any_ (h.go hA hB hE hF hR λbZ br u bz cg dh cQ bX b9 dY=>?_) ?_
 ·exact lu (Hi W1 Cl hn ha A bZ br F bz u hA dh bX dY) λu s' z=>z.glue cg b9
 ·erw [arm_eval_Attribute];rewrite [j7 hp];rfl
def zO(W1:W.Top)(Cl:W.Cl){x:AV}(hn:W.nm[f]? =some n)(h:lY W.P H x f v=some H'){A:Around}{F:Raws}{y:Value}(hA:AOk A d)(hB:gu W B)(hR:RM W B ρ F H s.heap)(hx:VR W B ρ x u)(hy:VR W B ρ v y):
  wpAny W.M A (setAttr u n y) (PU W B ρ F s H') fh s:=zF h hx λk a ha h=>jd h λc hc h=>by
 cases c using Cell.casesOn with
 | n c fs=>
  refine kA h λho h=>?_;refine J8 (hR.instA ha hc) λdx C es m e2 e3 e4 e5 zz e6=>?_;obtain⟨o1,o2⟩:=ag.mp ho
  erw [<- ae h]
  exact vK (W1.K (hR.base hB)) e3 e4 (Cl.fld _ _ _ _ o1 e2 hn) (e5.isSome Cl hn) (by erw [e5.length];exact aj (d5 (cL.mp o2)) (ab rfl)) λh' hsh tk tk' k q=>(i5 B ρ (.refl B ρ) (e6 _ _ _ _ k q (e5.put Cl hn hy hsh tk)) (⟨rfl,rfl,rfl⟩))
 | _=>exact dz h
end
end
section
mutual
variable{w:List Nat}{s:Shared}{m k n c:Nat}{F:Raws}{x v:AV}{A:Around}{vs xs:List AV}{t:Tok}{o:Expr}{name:Str}{apos:Pos}{args:List Expr}{u:Value}{f:List AV->Option (AV×Hp)}
variable{W:Wd}{d:Nat}{H H' aq aO dK:Hp}{cx:CX}{ls:Ls}{B:BgT}{ρ:List Addr}
def mh{pos:Pos}{env:Env}(hg:eZ o apos pos args=true):
  eval (.Call (.Attribute o name apos) args [] pos) env=(do
   let ov <- eval o env
   standAt apos.atName
   let (f,first) <- holding [ov] (getMethod ov name (do return (<- importBound o env).getD true))
   callWith pos f first (backTo pos (fS args env)) []):=by
 unfold eZ kU at hg;simp only[cv]at hg;refine kE hg λxq1 h3 h4=>?_;obtain⟨h1,h2⟩:=xq1
 erw [arm_eval_Call];rewrite [j7 h1]
 have hall:∀(es:List Expr),es.all cu=true->(backTo pos (fS es env)).all (!·.1)=true:=by
  intro es
  induction es with
  | nil=>intro zz;rfl
  | cons e es ih=>
   intro h
   simp only[oZ,cv]at h
   rw[dR h.1]
   show(true && _)=true
   erw [Bool.true_and];exact ih h.2
 have hf:methodCallForm (args.length+([]:List Keyword).length) (backTo pos (fS args env)) (backToKw pos (keywordEach [] env))=true:=by
  unfold methodCallForm
  erw [hall _ h3]
  have:=cL.mp h4
  show(true && true && decide (args.length+0+0<30))=true
  erw [Bool.and_self,Bool.true_and]
  exact decide_eq_true (by exact(cz (eS (aJ (aJ ai (aG 0)) (aG 0))) (aG 30) [(bf,aG 29)] aR this))
 have hp:methodCallPos true o env apos pos=pure pos:=by unfold methodCallPos;simp[h2]
 unfold methodCall calleeOf
 erw [hf]
 simp only[if_true,hp];rfl
def IZ{pos:Pos}{fv:BgT->List Addr->Value->Prop}(hg:eZ o apos pos args=true)(h:TE W d cx ls H o x aq)(h':TL W d cx ls aq args vs aO)
  (gm:∀(A:Around) (B:BgT) (ρ:List Addr) (F:Raws) (s:Shared) (u:Value) (pl:Sem Bool) (Q:Value×List Value->Shared->Prop),AOk A d->gu W B->RM W B ρ F aq s.heap->VR W B ρ x u->
   (∀f,(∀h,(∀b o,W.base.get? b=some o->h.get? b=some o)->lO W.M h f)->Ge W d aO (x::vs) (λus=>call f us) v H'->Q (f,[u]) s)->wpAny W.M A (getMethod u name pl) Q fh s):TE W d cx ls H (.Call (.Attribute o name apos) args [] pos) v H':=by
 intro A B ρ F env s hA hB hE hF hR;have hs:args.all cu=true:=by unfold eZ kU at hg;simp only[cv]at hg;exact hg.2.1
 show wpAny W.M A (eval (.Call (.Attribute o name apos) args [] pos) env) _ _ _
 erw [mh hg]
 refine aF (h.go hA hB hE hF hR λbZ br u bz cg dh cQ bX b9 dY=>aF (d9 (aF (bW ?_))));refine gm A bZ br F bz u _ _ hA dh bX dY λf hk op=>?_;refine fA hs (h'.go hA dh hE cQ bX λfY d7 us dQ eD iJ jb eI fH gT=>⟨hk _ (eI.base iJ),?_⟩);exact lu (op A fY d7 F dQ (u::us) hA iJ eI (.cons (dY.mono eD) gT)) λzz zy z=>(z.glue eD fH).glue cg b9
def TF(h1:dm 4 m=true)(h2:dm m 10=true):m=4\/m=5\/m=6\/m=7\/m=8\/m=9\/m=10:=by
 exact(of_decide_eq_true rfl:∀m:Nat,m<11->4<=m->m=4\/m=5\/m=6\/m=7\/m=8\/m=9\/m=10) m (k7 (ab h2)) (ab h1)
def E0(W1:W.Top)(h:j9 H x m=true){pl:Sem Bool}{Q:Value×List Value->Shared->Prop}(hA:AOk A d)(hB:gu W B)(hR:RM W B ρ F H s.heap)(hx:VR W B ρ x u)
  (k:Q (.builtin (zV m),[u]) s):wpAny W.M A (getMethod u (Bq m) pl) Q fh s:=by
 cases x using AV.casesOn with
 | ref j=>
  refine aL (mT hx) λa e ha=>?_;rw[e]at k |-
  replace h:lE m H[j]? =true:=h;cases hc:H[j]? with
  | none=>rw[hc]at h;exact ll h
  | some c=>
   rw[hc]at h
   cases c using Cell.casesOn with
   | list vs=>
    refine gy (hR.listA ha hc) λits n e2 zz=>?_
    cases m using bL with
    | zero=>exact getMethod_list_append e2 rfl rfl k
    | succ m=>
     cases m using bL with
     | zero=>exact getMethod_builtin (T:="list") (bH _ e2 rfl) PySem.F.plainAttrs_list PySem.F.slot_list_pop PySem.F.type_list_pop (λb e=>Value.ref.inj e ▸⟨_,e2,rfl⟩) k
     | succ m=>exact ll h
   | dict es=>
    refine dX (hR.dictA ha hc) λo kvs e2 xq2 zz=>?_;refine gy xq2 λes ep ex zz=>?_;rw[aV h]at k |-
    exact getMethod_builtin (T:="dict") (bH o e2 ex.1) PySem.F.plainAttrs_dict PySem.F.slot_dict_get PySem.F.type_dict_get (λb e=>Value.ref.inj e ▸⟨o,e2,ex.2.1⟩) k
   | n zz zy=>exact ll h
 | int i=>
  obtain⟨t,e⟩:=rH hx;rw[e,aV h]at k
  erw [e,aV h]
  exact getMethod_int_bit_length k
 | str w=>
  obtain⟨t,e⟩:=mw hx;rw[e]at k |-
  obtain⟨h1,h2⟩:=ag.mp h;rcases TF h1 h2 with e | e | e | e | e | e | e <;> rw[e]at k |-
  ·exact GM.find (show Q (.builtin "str.find",_) s from k)
  ·exact GM.index (show Q (.builtin "str.index",_) s from k)
  ·exact GM.join (show Q (.builtin "str.join",_) s from k)
  ·exact GM.lower (show Q (.builtin "str.lower",_) s from k)
  ·exact GM.replace (show Q (.builtin "str.replace",_) s from k)
  ·exact GM.rstrip (show Q (.builtin "str.rstrip",_) s from k)
  ·exact GM.split (show Q (.builtin "str.split",_) s from k)
 | _=>exact ll h
def qt:∀(vs:List AV) (xs:List (List Nat)) (us:List Value),gX vs=some xs->VRs W B ρ vs us->∃l:List (Str×Tok),us=fI l/\l.map (·.1)=xs.map aN
 | [],xs,us,h,r=>by erw [vq r,<- ae h];exact bH ([]) rfl rfl
 | v::vs,xs,us,h,r=>by
  refine dX (jl r) λu us' e r rs=>?_
  cases v using AV.casesOn with
  | str w=>
   obtain⟨t,e'⟩:=mw r;refine jV (show(gX vs).map (w::·)=some xs from h) λys hy e2=>?_;refine aL (qt vs ys us' hy rs) λl e3 e4=>?_
   erw [e,e',<- e2,e3]
   exact bH ((aN w,t)::l) rfl (by erw [bk,bk,e4];rfl)
  | _=>exact dz h
def w6:∀(l:List (Str×Tok)) (xs:List (List Nat)),l.map (·.1)=xs.map aN->VRs W B ρ (xs.map .str) (fI l)
 | [],[],h=> .nil
 | [],_::_,h=>nomatch h
 | _::_,[],h=>nomatch h
 | (y,t)::l,x::xs,h=>by
  obtain⟨h1,h2⟩:=dB h;have h1:y=aN x:=h1
  erw [h1]
  exact .cons .str (w6 l xs h2)
def qK(sep:List Nat):∀xs:List (List Nat),((xs.map aN).map Str.length).sum+(xs.map aN).length*(aN sep).length=xs.foldr (λx n=>x.length+sep.length+n) 0
 | []=>by simp
 | x::r=>by
  have ih:=qK sep r;simp only[bk,List.sum_cons,aI,List.foldr_cons,Nat.succ_mul,cy]at ih |-
  exact(bI (Ai (aJ (aJ ai ay) (aJ bF cP)) (aJ (aJ ai cP) nU) [(aJ ay bF,nU)] aR (pJ ih)) (Ai (aJ (aJ ai ay) bF) (aJ (aJ ai cP) (aJ nU ay)) [(bF,aJ cP nU)] aR (lq ih)))
def G9{x:List Nat}{us:List Value}{D:Addr}(hR:RM W B ρ F H s.heap)(hd:s.heap.IsList D us.toArray)(hv:VRs W B ρ vs us)(h:j2 x vs=some v):
  wpAny W.M A (call (.builtin "str.join") [.str (aN x) t, .ref D]) (PV W B ρ F s v H) fh s:=by
 unfold j2 at h;cases hx:gX vs with
 | none=>rw[hx]at h;exact dz h
 | some xs=>
  rw[hx]at h
  try dsimp only at h
  cases hb:(cF (xs.foldr (λw n=>w.length+x.length+n) 0) && cF vs.length)with
  | false=>rw[hb]at h;exact dz h
  | true=>
   rw[hb]at h;refine aL (qt _ _ _ hx hv) λl e1 e=>?_;rw[e1]at hd;refine oo h (SC.join hd e ?_ λt' k=>?_)
   ·unfold JoinOk
    erw [StrLaws.joinTotal,qK]
    have:=fg (ag.mp hb).1;have e2:(2:Nat) ^ 24=16777216:=rfl;unfold Builtin.Str.tooLong ly
    erw [decide_eq_false (iA.mpr (aj this (ab rfl)))];rfl
   ·erw [(show Txt.join (aN x) (xs.map aN)=aN (oe x xs)from(StrLaws.glued_eq_join _ _).trans (ti x xs))]
    exact d0 B ρ (.refl B ρ) hR (⟨rfl,rfl,rfl⟩) .str
def DEnt.get{ks:List (List Nat×AV)}{kvs:List (Str×Value)}(r:DEnt W B ρ ks kvs)(x:List Nat):match kr x ks with
  | some v=> ∃u,valueAt kvs (aN x)=some u/\VR W B ρ v u
  | none=>valueAt kvs (aN x)=none:=by
 induction r with
 | nil=>rfl
 | @cons k _ _ _ _ hv r ih=>
  unfold kr;by_cases e:k=x
  ·subst e
   erw [if_pos rfl]
   exact bH _ (by simp[valueAt]) hv
  ·erw [if_neg e]
   have e':¬ (aN k=aN x):=λq=>e (by have:=congrArg (λw:Str=>w.cps.toList) q;simpa [aN]using this);have:∀(u:Value) (es:List (Str×Value)),valueAt ((aN k,u)::es) (aN x)=valueAt es (aN x):=λu es=>by
    unfold valueAt
    erw [rF,decide_eq_false e'];rfl
   erw [this]
   exact ih
def Ju(Cl:W.Cl){F:Raws}{h:Heap}(hB:gu W B){a:Addr}(hb:B a=none):(a==sysModules)=false:=by
 rw[beq_eq_false_iff_ne];intro e;subst e;obtain⟨o,ho⟩:=Cl.sys;rw[hB _ _ ho]at hb;cases hb
def Fw(c:Nat):∀l:List Nat,cnt c l<=l.length
 | []=>by erw [cnt_nil];simp
 | x::r=>by
  have:=Fw c r
  erw [cnt_cons]
  simp only[aI]
  split <;> (first | lia | omega)
def ro(its:Array Value)(n:Nat)(hne:its.size≠0):Obj.mapSeq (λxs=>xs.eraseIdxIfInBounds (its.size-1)) {cls:= .type "list",data:= .seq its n}={cls:= .type "list",data:= .seq its.pop (n+1)}:=by
 have e:(its.size-1==its.size)=false:=beq_eq_false_iff_ne.mpr (aC (Nat.sub_lt (wJ hne) Nat.one_pos));have e2:its.eraseIdxIfInBounds (its.size-1)=its.pop:=by
  apply q8
  unfold Array.eraseIdxIfInBounds
  split
  ·have h1:its.toList.length=its.size:=rfl;simp only[Array.toList_eraseIdx,Array.toList_pop]
   erw [List.eraseIdx_eq_take_drop_succ,rR,h1,(dU (by exact wJ hne)),(lg (by exact aw _)),bq];rfl
  ·rename_i q;exact absurd (Nat.sub_lt (wJ hne) Nat.one_pos) q
 simp[Obj.mapSeq,e2,e]
def xR{A:Around}{E:Value->Shared->Prop}{D:Addr}{its:Array Value}{y:Value}{Q:Value->Shared->Prop}(ho:s.heap.get? D=some {cls:= .type "list",data:= .seq its n})
  (hy:its[its.size-1]? =some y)(hsz:its.size<=ly)
  (h:∀h',fe D s.heap h'->h'.get? D=some {cls:= .type "list",data:= .seq its.pop (n+1)}->Q y {s with heap:=h'}):
  wpAny W.M A (call (.builtin "list.pop") [.ref D]) Q E s:=by
 have hne:its.size≠0:=by
  intro h0
  simp[h0]at hy
 refine call_meets PySem.F.slot_list_pop (bH _ ho rfl) PySem.F.entry_list_pop (PySem.F.args_list_pop_1 _) (PySem.MeetsSeq.list_pop_last D its n y hy hsz) ⟨ho,?_⟩;refine h _ (ur ..) ?_
 erw [(rS _ ho (by erw [ro _ _ hne];rfl)),ro _ _ hne];rfl
def Co{x z:List Nat}{u v:Tok}(hR:RM W B ρ F H s.heap)(hr:x.contains c=false):
  wpAny W.M A (call (.builtin "str.replace") [.str (aN x) t, .str (aN [c]) u, .str (aN z) v]) (PV W B ρ F s (.str x) H) fh s:=by
 have hc:c∉x:=λq=>by rw[fu.mpr q]at hr;cases hr
 have he:(hU (aN x) (aN [c]) 0 (aN x).length ((aN x).length+1)).isEmpty=true:=by
  rcases StrLaws.occ_head (aN x) (aN [c]) ((aN x).length+1) (by omega)with⟨h0,_⟩ | ⟨i,r,_,h1,_⟩
  ·erw [h0];rfl
  ·exact absurd (bM ((wA x c i).mp h1)) hc
 refine call_gives PySem.F.slot_str_replace (typeIs_str _ _ _) PySem.F.entry_str_replace (PySem.F.args_str_replace_3 _ _ _) (gives_str_replace _ _ _ _ _ _ λq=>by rw[he]at q;cases q) ?_
 erw [he]
 exact d0 B ρ (.refl B ρ) hR (⟨rfl,rfl,rfl⟩) .str
def Eg{x:List Nat}{u:Tok}(hR:RM W B ρ F H s.heap)(hr:x.length<=1000000):
  wpAny W.M A (call (.builtin "str.split") [.str (aN x) t, .str (aN [c]) u]) (PV W B ρ F s (.ref H.length) (H++ [.list ((eY c x).map .str)])) fh s:=by
 have hb:=dZ;have fin:∀(l:List (Str×Tok)) (tk:Nat),l.map (·.1)=Txt.split (aN x) (aN [c])->PV W B ρ F s (.ref H.length) (H++ [.list ((eY c x).map .str)]) (.ref s.heap.objs.size) {s with heap:=s.heap.push {cls:= .type "list",data:= .seq (fI l).toArray},toks:=tk}:=by
  intro l tk e
  have hl:=hR.len
  have e2:l.map (·.1)=(eY c x).map aN:=by
   erw [e,<- Ca x c,iC]
   simp[Function.comp_def,gY]
  have:=hR.newList (w6 (W:=W) (B:=B) (ρ:=ρ) _ _ e2)
  exact d0 B _ (.push B ρ _) this (⟨rfl,rfl,rfl⟩) (.ref (by erw [<- hl];simp))
 have hlen:(Txt.split (aN x) (aN [c])).length<=ly:=by
  have h1:=PyProof.Rows.split_len (aN x) c
  have h2:=Fw c (aN x).cps.toList
  have h3:(aN x).cps.toList.length=x.length:=rfl
  have h4:(((Txt.split (aN x) (aN [c])).length:Nat):Int)=1+cnt c (aN x).cps.toList:=h1
  lia
 cases h1:(decide ((aN x).length<(aN [c]).length) || decide (Builtin.Str.strKind (aN x)<Builtin.Str.strKind (aN [c])))
 ·cases hf:(hU (aN x) (aN [c]) 0 (aN x).length ((aN x).length+1)).isEmpty
  ·have es:Txt.split (aN x) (aN [c])=Builtin.Str.partsBetween (aN x) (hU (aN x) (aN [c]) 0 (aN x).length ((aN x).length+1)) (aN [c]).length:=(if_neg (ne_true_of_eq_false h1)).trans (if_neg (ne_true_of_eq_false hf));refine call_meets PySem.F.slot_str_split (typeIs_str _ _ _) PySem.F.entry_str_split (PySem.F.args_str_split_2 _ _) (meets_str_split_sep (aN x) (aN [c]) t u h1 rfl hf (by erw [cy];exact aj hr (ab rfl)) (by erw [<- es];exact hlen)) ?_;show wants _ _ _ {s with toks:=_,heap:=s.heap.push {cls:= .type "list",data:= .seq (strsFrom s.toks (Builtin.Str.partsBetween (aN x) (hU (aN x) (aN [c]) 0 (aN x).length ((aN x).length+1)) (aN [c]).length)).toArray}}
   erw [strsFrom_eq]
   exact fin (numbered s.toks _) _ ((numbered_texts _ _).trans es.symm)
  ·exact call_meets PySem.F.slot_str_split (typeIs_str _ _ _) PySem.F.entry_str_split (PySem.F.args_str_split_2 _ _) (meets_str_split_not_found (aN x) (aN [c]) t u h1 rfl hf)
    (fin [(aN x,t)] s.toks ((if_neg (ne_true_of_eq_false h1)).trans (if_pos hf)).symm)
 ·exact call_meets PySem.F.slot_str_split (typeIs_str _ _ _) PySem.F.entry_str_split (PySem.F.args_str_split_2 _ _) (meets_str_split_cannot_occur (aN x) (aN [c]) t u h1)
   (fin [(aN x,t)] s.toks (if_pos h1).symm)
noncomputable abbrev AM(W:Wd)(d:Nat)(H H':Hp)(m:Nat)(x:AV)(f:List AV->Option (AV×Hp)):Prop:= ∀(vs:List AV) (v:AV),f vs=some (v,H')->Ge W d H (x::vs) (λus=>call (.builtin (zV m)) us) v H'
def s7(k:∀(A:Around) (B:BgT) (ρ:List Addr) (F:Raws) (s:Shared) (vs:List AV) (us:List Value) (v:AV) (t:Tok),AOk A d->RM W B ρ F H s.heap->VRs W B ρ vs us->f vs=some (v,H')->wpAny W.M A (call (.builtin (zV m)) (.str (aN w) t::us)) (PV W B ρ F s v H') fh s):AM W d H H' m (.str w) f:=λvs v h A B ρ F s us hA hB hR hv=>by
 refine dX (jl hv) λu us' e r hv=>?_;obtain⟨t,e'⟩:=mw r
 erw [e,e']
 exact k A B ρ F s vs us' v t hA hR hv h
def ph{B:BgT}{ρ:List Addr}{tk:Nat}(hR:RM W B ρ F H s.heap)(r:VR W B ρ v u):PV W B ρ F s v H u {s with toks:=tk}:=(d0 B ρ (.refl B ρ) hR (⟨rfl,rfl,rfl⟩) r)
def Ln:AM W d H H' 4 (.str w) λvs=>Bt w vs H:=s7 λA B ρ F s vs us v t hA hR hv h=>by
 cases vs using au with
 | nil=>exact dz h
 | cons x vs=>
  refine dX (jl hv) λu us' e r hv=>?_
  erw [e]
  refine sv (show il x _=some (v,H')from h) r λy t' h=>zQ h λc h=>?_
  cases vs using au with
  | nil=>
   erw [vq hv]
   refine gh h (SC.find ?_);have:Txt.find (aN w) (aN [c])=pW (gf c w) 0:=by
    have ho:=vS w c 0
    rw[nD]at ho
    unfold Txt.find
    cases q:gf c w with
    | none=>rw[q]at ho;try dsimp only at ho;erw [ho];rfl
    | some j=>rw[q]at ho;obtain⟨r,ho⟩:=ho;erw [ho];rfl
   erw [this]
   exact ph hR .int
  | cons z vs=>
   refine dX (jl hv) λu' us'' e r' hv=>?_
   erw [e]
   refine v0 (G:=λus=>wpAny W.M A (call (.builtin (zV 4)) (.str (aN w) t:: .str (aN [c]) t'::u'::us)) (PV W B ρ F s v H') fh s) (show FU vs _=some (v,H')from h) hv λh=>mP h r' λi t'' h=>Lh h λn h=>gh h (SC.find3 ?_);have:Txt.find3 (aN w) (aN [c]) (n:Int)=pW (gf c (w.drop n)) n:=by
    have ho:=vS w c n
    have ei:PySem.fromIndex (aN w).length (n:Int)=n:=by
     unfold PySem.fromIndex
     erw [if_neg (jf.mpr (fE n))]
     exact Int.toNat_natCast n
    unfold Txt.find3
    erw [ei]
    cases q:gf c (w.drop n)with
    | none=>rw[q]at ho;try dsimp only at ho;erw [ho];rfl
    | some j=>rw[q]at ho;obtain⟨r,ho⟩:=ho;erw [ho];rfl
   erw [this]
   exact ph hR .int
def HA:AM W d H H' 5 (.str w) λvs=>Ex w vs H:=s7 λA B ρ F s vs us v t hA hR hv h=>v1 (G:=λus=>wpAny W.M A (call (.builtin (zV 5)) (.str (aN w) t::us)) (PV W B ρ F s v H') fh s) h hv λx u r h=>sv h r λy t' h=>zQ h λc h=>jV h λi hi e=>by
 have ho:=vS w c 0;rw[nD,hi]at ho;obtain⟨r,ho⟩:=ho;rw[jh]at ho
 erw [<- (aH e).1,<- (aH e).2]
 exact SC.index ho (ph hR .int)
def Lm:AM W d H H' 6 (.str w) λvs=>Jy w vs H:=s7 λA B ρ F s vs us v t hA hR hv h=>v1 (G:=λus=>wpAny W.M A (call (.builtin (zV 6)) (.str (aN w) t::us)) (PV W B ρ F s v H') fh s) h hv λx u r h=>zF h r λk a ha h=>jd h λxs hx h=>jV h λy hy e=>by
 refine aL (eA hR hx ha) λits p q=>?_
 erw [<- (aH e).1,<- (aH e).2]
 exact G9 hR p q hy
def Hz:AM W d H H' 7 (.str w) λvs=>Ew w vs H:=s7 λA B ρ F s vs us v t hA hR hv h=>v0 (G:=λus=>wpAny W.M A (call (.builtin (zV 7)) (.str (aN w) t::us)) (PV W B ρ F s v H') fh s) h hv λh=>kA h λhr h=>jV h λy hy e=>by
 erw [<- (aH e).1,<- (aH e).2]
 refine SC.lower (fit_lower (by erw [cy];exact aj (fg hr) (ab rfl))) ?_
 erw [Cv hy]
 exact ph hR .str
def Ll:AM W d H H' 8 (.str w) λvs=>Jx w vs H:=s7 λA B ρ F s vs us v t hA hR hv h=>v2 (G:=λus=>wpAny W.M A (call (.builtin (zV 8)) (.str (aN w) t::us)) (PV W B ρ F s v H') fh s) h hv λx y u u' r r' h=>sv h r λzz t' h=>zQ h λc h=>sv h r' λz t'' h=>kA h λhb h=>gh h (Co hR (by cases q:w.contains c with | false=>rfl | true=>rw[q]at hb;exact ll hb))
def Es:AM W d H H' 9 (.str w) λvs=>Bs w vs H:=s7 λA B ρ F s vs us v t hA hR hv h=>v1 (G:=λus=>wpAny W.M A (call (.builtin (zV 9)) (.str (aN w) t::us)) (PV W B ρ F s v H') fh s) h hv λx u r h=>sv h r λzz t' h=>zQ h λc h=>kA h λhr h=>gh h (SC.rstripChars (hsz:=by erw [cy];exact aj (fg hr) (aj (ab rfl) dZ)) λt' k=>by
 erw [zE]
 exact ph hR .str)
def Hy:AM W d H H' 10 (.str w) λvs=>Eu w vs H:=s7 λA B ρ F s vs us v t hA hR hv h=>v1 (G:=λus=>wpAny W.M A (call (.builtin (zV 10)) (.str (aN w) t::us)) (PV W B ρ F s v H') fh s) h hv λx u r h=>sv h r λzz t' h=>zQ h λc h=>kA h λhr h=>gh h (Eg hR (fg hr))
def Et(hc:H[k]? =some (.list xs)):AM W d H H' 0 (.ref k) λvs=>Bu k xs vs H:=λvs v h A B ρ F s us hA hB hR hv=>by
 refine dX (jl hv) λu us' e r hv=>?_;refine aL (mT r) λa e' ha=>?_;refine fy (hR.listA ha hc) λits n e2 e3 e4 e5=>?_
 erw [e,e']
 refine v1 (G:=λus=>wpAny W.M A (call (.builtin (zV 0)) (.ref a::us)) (PV W B ρ F s v H') fh s) h hv λx u r h=>kA h λhr h=>gh h (append_at (hsz:=by erw [(show its.toArray.size=xs.length from e3.length)];exact aj (fg hr) (aj (ab rfl) dZ)) e2 λh' k q=>?_);rw[List.push_toArray]at q;exact d0 B ρ (.refl B ρ) (e5 _ _ _ _ k q (e3.append (.cons r .nil))) (⟨rfl,rfl,rfl⟩) .none
def NT(hc:H[k]? =some (.list xs)):AM W d H H' 1 (.ref k) λvs=>NV k xs vs H:=λvs v h A B ρ F s us hA hB hR hv=>by
 refine dX (jl hv) λu us' e r hv=>?_;refine aL (mT r) λa e' ha=>?_;refine fy (hR.listA ha hc) λits n e2 e3 e4 e5=>?_
 erw [e,e']
 refine v0 (G:=λus=>wpAny W.M A (call (.builtin (zV 1)) (.ref a::us)) (PV W B ρ F s v H') fh s) h hv λh=>kA h λhr h=>jV h λy hy e=>?_
 erw [<- (aH e).1,<- (aH e).2]
 rw[List.getLast?_eq_getElem?,<- e3.length]at hy;refine aL (e3.get hy) λw hw hvr=>?_;refine xR (hsz:=by erw [(show its.toArray.size=xs.length from e3.length)];exact aj (fg hr) (aj (ab rfl) dZ)) e2 (y:=w) (by erw [dH];exact hw) λh' k q=>?_;rw[show its.toArray.pop=its.dropLast.toArray by simp]at q;exact d0 B ρ (.refl B ρ) (e5 _ _ _ _ k q e3.dropLast) (⟨rfl,rfl,rfl⟩) hvr
def NU(Cl:W.Cl){es:List (List Nat×AV)}(hc:H[k]? =some (.dict es)):AM W d H H' 2 (.ref k) λvs=>NW es vs H:=λvs v h A B ρ F s us hA hB hR hv=>by
 refine dX (jl hv) λu us' e r hv=>?_;refine aL (mT r) λa e' ha=>?_;refine ua (hR.dictA ha hc) λo kvs e2 e3 e4 e5 zz=>?_
 erw [e,e']
 refine v2 (G:=λus=>wpAny W.M A (call (.builtin (zV 2)) (.ref a::us)) (PV W B ρ F s v H') fh s) h hv λx y u u' r r' h=>sv h r λw t h=>gh h ?_;have hm:s.heap.DictOf (PySem.strKind W.prog W.w) a kvs:=rG.mpr (bH o e2 e3);have g:=e4.get w;refine call_meetsIn PySem.F.slot_dict_get hm.typeIs PySem.F.entry_dict_get (PySem.F.args_dict_get_3 _ _ _) (meets_dict_get_default (PySem.strKind W.prog W.w) (k:=aN w) a (beq_self_eq_true _) (Ju (F:=F) (h:=s.heap) Cl hB e5) _) (bH _ hm.mapOf ?_);show PV W B ρ F s _ H _ _;cases q:kr w es with
 | none=>rw[q]at g;try dsimp only at g;erw [g];exact d0 B ρ (.refl B ρ) hR (⟨rfl,rfl,rfl⟩) r'
 | some y=>rw[q]at g;refine aL g λz g1 g2=>?_;erw [g1];exact d0 B ρ (.refl B ρ) hR (⟨rfl,rfl,rfl⟩) g2
def Lo{i:Int}:AM W d H H' 3 (.int i) λvs=>FU vs (some (.int ((gV i:Nat)),H)):=λvs v h A B ρ F s us hA hB hR hv=>by
 refine dX (jl hv) λu us' e r hv=>?_;obtain⟨t,e'⟩:=rH r
 erw [e,e']
 exact v0 (G:=λus=>wpAny W.M A (call (.builtin (zV 3)) (.int i t::us)) (PV W B ρ F s v H') fh s) h hv λh=>gh h (call_int_bit_length (d0 B ρ (.refl B ρ) hR (⟨rfl,rfl,rfl⟩) .int))
def AM.at(h:AM W d H H' n x f)(e:aW m n=true):AM W d H H' m x f:=aV e ▸h
def Bk(Cl:W.Cl)(h:kM x m vs H=some (v,H')):Ge W d H (x::vs) (λus=>call (.builtin (zV m)) us) v H':=by
 cases x using AV.casesOn with
 | str w=>exact nu h (λe h=>Ln.at e _ _ h) λzz h=>nu h (λe h=>HA.at e _ _ h) λzz h=>nu h (λe h=>Lm.at e _ _ h) λzz h=>nu h (λe h=>Hz.at e _ _ h) λzz h=>nu h (λe h=>Ll.at e _ _ h) λzz h=>nu h (λe h=>Es.at e _ _ h) λzz h=>kA h λe h=>Hy.at e _ _ h
 | int i=>exact kA h λe h=>Lo.at e _ _ h
 | ref k=>
  refine jd h λc hc h=>?_
  cases c using Cell.casesOn with
  | list xs=>exact nu h (λe h=>(Et hc).at e _ _ h) λzz h=>kA h λe h=>(NT hc).at e _ _ h
  | dict es=>exact kA h λe h=>(NU Cl hc).at e _ _ h
  | n zz zy=>exact dz h
 | _=>exact dz h
end
end
mutual
structure Wd.Ci(W:Wd):Prop where
 own:∀(c:Nat) (C:Addr),W.cat c=some C->IE W.K C=true
 two:∀(c c':Nat) (C C':Addr),c≠c'->W.cat c=some C->W.cat c'=some C'->kin_not W.K C C'=true
 objs:∀(i:Nat) (a:Addr) (c:Nat),W.oa[i]? =some a->W.P.objs[i]? =some c->∃C dx es n,W.cat c=some C/\W.base.get? a=some (instObj C dx)/\W.base.get? dx=some (dictOf es n)
 hn:specialIn W.K (.builtin "object.__class__") "__get__"=some (some (.builtin "getset_descriptor.__get__"))
 htk:takesIn W.K (.builtin "object.__class__")=some true
abbrev PY(W:Wd):IK->Value->Prop
 | .bool,v=>v= .type "bool"
 | .int,v=>v= .type "int"
 | .cls c,v=> ∃C,W.cat c=some C/\v= .ref C
end
section
mutual
variable{kv:Value}{x:AV}{q:Bool}{f:Str}
variable{W:Wd}{d:Nat}{H H' aq aO dK:Hp}{cx:CX}{ls:Ls}{B:BgT}{ρ:List Addr}
def xY(W1:W.Top)(Ci:W.Ci){A:Around}{F:Raws}{s:Shared}{a dx C:Addr}{es:List DictEntry}{n c:Nat}{k:IK}(hB:gu W B)(hR:RM W B ρ F H s.heap)(hC:W.cat c=some C)(hx:s.heap.get? a=some (instObj C dx))(hdx:s.heap.get? dx=some (dictOf es n))(hk:PY W k kv):
  wpAny W.M A (call (.builtin "isinstance") [.ref a,kv]) (PV W B ρ F s (.bool (Cx k c)) H) fh s:=by
 have X:=W1.K (hR.base hB);have I:InstAt s.heap a (instObj C dx) C (some (dictOf es n)):=⟨hx,rfl,rfl,hdx⟩;have hc:=Ci.own _ _ hC;simp only[IE,cv,beq_iff_eq]at hc;obtain⟨xq1,h9⟩:=hc;obtain⟨xq2,h8⟩:=xq1;obtain⟨xq3,h7⟩:=xq2;obtain⟨xq4,h6⟩:=xq3;obtain⟨xq5,h5⟩:=xq4;obtain⟨xq6,h4⟩:=xq5;obtain⟨xq7,h3⟩:=xq6;obtain⟨h1,h2⟩:=xq7;have fin:∀{b:Bool} {tk:Nat},PV W B ρ F s (.bool b) H (.bool b) {s with toks:=tk}:=dP hR rfl ⟨rfl,rfl,rfl⟩
 cases k using IK.casesOn with
 | bool=>erw [(show kv= .type "bool" from hk)];exact kin_callT X I h8 (by rfl) h1 h2 h3 Ci.hn Ci.htk h4 fin
 | int=>erw [(show kv= .type "int" from hk)];exact kin_callT X I h9 (by rfl) h1 h2 h3 Ci.hn Ci.htk h4 fin
 | cls c'=>
  refine aL hk λC' hC' e=>?_
  erw [e]
  show wpAny W.M A _ (PV W B ρ F s (.bool (aW c c')) H) fh s;by_cases e:c=c'
  ·rw[<- e]at hC' |-
   erw [<- ae (hC.symm.trans hC'),fV]
   exact isi_call X (λM=>I.type) h5 (λq=>nomatch q) fin
  ·erw [Lg e]
   exact kin_callC X I (Ci.two _ _ _ _ e hC hC') h1 h2 h3 Ci.hn Ci.htk h4 fin
def KW(W1:W.Top)(Ci:W.Ci){k:IK}(hk:PY W k kv)(h:kh W.P H k x=some q):M8 W d H x (λu=>call (.builtin "isinstance") [u,kv]) λB ρ F s=>PV W B ρ F s (.bool q) H:=by
 intro A B ρ F s u hA hB hR hv;have fin:∀{b:Bool} {tk:Nat},PV W B ρ F s (.bool b) H (.bool b) {s with toks:=tk}:=dP hR rfl ⟨rfl,rfl,rfl⟩;have own:∀{c:Nat} {C:Addr},W.cat c=some C->isNotIn W.K "int" C=true/\isNotIn W.K "bool" C=true:=λhC=>by
  have hc:=Ci.own _ _ hC
  simp only[IE,cv]at hc
  exact⟨hc.1.1.1.2,hc.1.1.2⟩
 cases x using AV.casesOn with
 | bool b=>
  erw [nY hv]
  refine oo h ?_
  cases k using IK.casesOn with
  | bool=>erw [(show kv= .type "bool" from hk)];exact IsiPair.bool_bool fin
  | int=>erw [(show kv= .type "int" from hk)];exact IsiPair.bool_int fin
  | cls c=>
   refine aL hk λC hC e=>?_
   erw [e]
   exact isn_call (P:=λzz=>True) (W1.K (hR.base hB)) (λM=>Looks.of_pure rfl) (own hC).2 (λq=>nomatch q) trivial bool_cls fin
 | int i=>
  obtain⟨t,e⟩:=rH hv
  erw [e]
  refine oo h ?_
  cases k using IK.casesOn with
  | bool=>erw [(show kv= .type "bool" from hk)];exact IsiPair.int_bool fin
  | int=>erw [(show kv= .type "int" from hk)];exact IsiPair.int_int fin
  | cls c=>
   refine aL hk λC hC e=>?_
   erw [e]
   exact isn_call (P:=λzz=>True) (W1.K (hR.base hB)) (λM=>Looks.of_pure rfl) (own hC).1 (λq=>nomatch q) trivial int_cls fin
 | obj i=>
  refine aL (Gx hv) λa e ha=>?_
  erw [e]
  refine jV h λc' hc' e2=>?_;refine w3 (Ci.objs _ _ _ ha hc') λC dx es n e1 e2' e3=>?_
  erw [<- e2]
  exact xY W1 Ci hB hR e1 (hR.base hB _ _ e2') (hR.base hB _ _ e3) hk
 | ref i=>
  refine aL (mT hv) λa e ha=>?_
  erw [e]
  refine jd h λc hc h=>?_
  cases c using Cell.casesOn with
  | n c' fs=>
   refine w2 (hR.instA ha hc) λdx C es m e2 e3 e4 zz=>?_;exact oo h (xY W1 Ci hB hR e2 e3 e4 hk)
  | _=>exact dz h
 | _=>exact dz h
def wF(W1:W.Top){p pos:Pos}{args:List Expr}{fv:Value}{vs:List AV}{v:AV}(ho:Ei f=false)(hs:cx.scope.names.lookup f=some .globalImplicit)(hg:Gl W f fv)(ha:args.all cu=true)
  (hk:∀h,(∀b o,W.base.get? b=some o->h.get? b=some o)->lO W.M h fv)(h:TL W d cx ls H args vs aq)(op:Ge W d aq vs (λus=>call fv us) v H'):TE W d cx ls H (.Call (.Name f p) args [] pos) v H':=by
 intro A B ρ F env s hA hB hE hF hR;refine wpAny_Call_NameR (kx W1 hE (kL ho).1 hg hs (hR.base hB) (fA ha (h.go hA hB hE hF hR λbZ br us bz cg dh cQ bX b9 dY=>⟨hk _ (bX.base dh),?_⟩)));exact lu (op A bZ br F bz us hA dh bX dY) λzz zy z=>z.glue cg b9
def Mx(W1:W.Top)(Ci:W.Ci){g:Str}{p pos pos':Pos}{a:Expr}{k:IK}(ho:Ei f=false)(ho':Ei g=false)(hs:cx.scope.names.lookup f=some .globalImplicit)(hs':cx.scope.names.lookup g=some .globalImplicit)(hg:Gl W f (.builtin "isinstance"))(hg':Gl W g kv)(hk:PY W k kv)
  (ha:cu a=true)(h:TE W d cx ls H a x aq)(hq:kh W.P aq k x=some q):TE W d cx ls H (.Call (.Name f p) [a, .Name g pos'] [] pos) (.bool q) aq:=by
 intro A B ρ F env s hA hB hE hF hR;refine wpAny_Call_NameR (kx W1 hE (kL ho).1 hg hs (hR.base hB) (fA (by erw [oZ,ha];rfl) ?_));rw[dR ha];refine spliced_cons (h.go hA hB hE hF hR λbZ br u bz cg dh cQ bX b9 dY=>?_);rw[dR (by rfl)];refine spliced_cons (kx W1 hE (kL ho').1 hg' hs' (bX.base dh) (spliced_nil ⟨fT _,?_⟩));exact lu (KW W1 Ci hk hq A bZ br F bz u hA dh bX dY) λzz zy z=>z.glue cg b9
end
end
end Mine.Internal
end
section
open PySem PySem.Calls PyProof.Rows PySem.W
open Builtin Builtin.Str
namespace Mine.Internal
mutual
def Eo:typeLookup (.type "list_reverseiterator") "__len__"=pure none:=by erw [typeLookup_type,builtinLookup_eq_fast];kernel_rfl
def HT:typeLookup (.type "list_reverseiterator") "__length_hint__"=pure (some (.builtin "list_reverseiterator.__length_hint__")):=by erw [typeLookup_type,builtinLookup_eq_fast];kernel_rfl
end
section
mutual
variable{prog:Program}{w:World}{A:Around}{E:Value->Shared->Prop}{s:Shared}{I:Addr}{fp wr:List Addr}{G:Array GenState->Array GenState->Prop}{n:Nat}{P:Nat->Value->Prop}{St:Nat->Shared->Prop}
def yD{Q:List Value->Shared->Prop}
  (W:WalksS prog w A.in1 I fp wr G n P St)(hT:∀i s,St i s->s.TypeIs (.ref I) "list_reverseiterator")(hst:St 0 s)(hfp:∀b∈fp,b<s.heap.objs.size)(hI:I∈fp)(hn:n<=ly)
  (hQ:∀s' acc,Moved wr G s s'->ItemsOf P acc n->Q acc.toList s'):wpAny (model prog w) A (collect (.ref I)) Q E s:=by
 have hSf:s.heap.objs.size∉fp:=λhm=>jQ _ (hfp _ hm);have hSI:s.heap.objs.size≠I:=λe=>hSf (e ▸hI);unfold collect;refine aF (wpAny_runValue (codeAny_builtin F.entry_proto_collect ?_))
 erw [Around.under_plainId F.plain_proto_collect _]
 show wpAny _ A.in1 (newList [] >>=λl=>again (.builtin "list.__iadd__" ⟨[l, .ref I],[]⟩)) _ _ s;refine aF (wpAny_newObj_type ?_);refine bJ ⟨plainId_quiet F.plain_list_iadd _,codeAny_builtin F.entry_list_iadd ?_⟩
 erw [Around.under_plainId F.plain_list_iadd _]
 have qM:=W.frame 0 s (s.heap.push {cls:= .type "list",data:= .seq ([]:List Value).toArray}) s.toks hst (aw _) λb zz o e=>cG _ e;have Oj:(s.heap.push {cls:= .type "list",data:= .seq ([]:List Value).toArray}).get? s.heap.objs.size=some {cls:= .type "list",data:= .seq ([]:List Value).toArray}:=dD _ rfl;have h1:Builtin.List.listSameRef (.ref s.heap.objs.size) (.ref I)=false:=by simp[Builtin.List.listSameRef,hSI]
 show wpAny _ A.in1 (Dm (.ref s.heap.objs.size) (.ref I) (.ref s.heap.objs.size)) _ _ _;unfold Dm;refine aF (wpAny_typeOf (hT 0 _ qM) ?_)
 erw [(if_neg (by erw [h1];decide))]
 refine aF (W.self 0 _ _ _ qM ?_);refine aF (bW ?_);unfold Builtin.List.listLengthHint;refine aF (wpAny_specialOf (hT 0 _ qM) Eo ?_);show wpAny _ A.in1 (specialOf (Value.ref I) (aa "__length_hint__") >>=_) _ _ _;refine aF (wpAny_specialOf (hT 0 _ qM) HT ?_);generalize hid:("list_reverseiterator.__length_hint__":String)=id0
 wp_delta
 erw [(show splitId id0=some ("list_reverseiterator","__length_hint__")from by subst hid;decide+kernel)]
 subst hid;refine aF (wpAny_isInstance (b:=true) (hT 0 _ qM) (by erw [isSubtype_type];kernel_rfl) ?_);refine bJ ?_
 erw [(if_neg (by decide))]
 refine bJ ⟨plainId_quiet F.plain_extend_loop _,codeAny_extend_loopS W hn _ hSf _ n 0 _ _ _ rfl (aX _) qM Oj (ItemsOf.nil P) λs' acc' c' hm hS' hacc=>?_⟩;show wpAny _ A (load s.heap.objs.size >>=_) _ _ s';refine aF (wpAny_load hS' ?_);exact bJ (hQ s' acc' (Moved.drop_new (o:={cls:= .type "list",data:= .seq ([]:List Value).toArray}) (tk:=s.toks) hm (aw _)) hacc)
def EJ{x:Str}{t:Tok}{Q:Value->Shared->Prop}(W:WalksS prog w A.in1.in1 I fp wr G n P St)(hT:∀i s,St i s->s.TypeIs (.ref I) "list_reverseiterator")(hst:St 0 s)(hfp:∀b∈fp,b<s.heap.objs.size)(hI:I∈fp)
  (hstr:∀i v,P i v->∃y u,v=AF y u)(hsz:n<=ly)
  (hq:∀s' (l:List (Str×Tok)),Moved wr G s s'->ItemsOf P (fI l).toArray n->JoinOk x (l.map (·.1))=true/\∀t' k,Q (.str (Txt.join x (l.map (·.1))) t') {s' with toks:=k}):
  wpAny (model prog w) A (call (.builtin "str.join") [.str x t, .ref I]) Q E s:=by
 refine wpAny_call (codeAny_call_builtin F.slot_str_join.plain F.entry_str_join (F.slot_str_join.check _ _ _ _ _ _ _ _ (typeIs_str _ _ _) (F.args_str_join_2 _ _) ?_))
 erw [join_tree_other]
 refine aF (wpAny_typeOf (hT 0 s hst) ?_);show wpAny _ A.in1 ((pyIter (.ref I)).tryCatch _ >>=λit=>collect it >>=λitems=>joinTail x items) _ _ s;refine aF (wpAny_tryCatch (W.of_in1.self 0 s _ _ hst ?_));refine aF (yD W hT hst hfp hI hsz λs' acc hm hacc=>?_);obtain⟨l,hl⟩:=exists_strValues acc.toList λv hv=>by
  obtain⟨j,hj,xq1⟩:=Array.mem_iff_getElem.mp (Array.mem_toList_iff.mp hv);subst xq1
  exact hstr j _ (hacc.2 j _ (Array.getElem?_eq_getElem hj))
 erw [<- hl]
 have hacc':ItemsOf P (fI l).toArray n:=by erw [hl];simpa using hacc
 obtain⟨hok,hpost⟩:=hq s' l hm hacc';unfold JoinOk at hok;rw[gL]at hok;have g:Gives (joinTail x (fI l)) (joinMade x l):=by
  have g0:=gives_joinTail x l hok
  cases l using au with
  | nil=>exact g0
  | cons p r=>cases r using au with
   | nil=>exact g0
   | cons q r'=>exact g0
 exact g prog w A (wants Q E) s' (post_join l ⟨joinFit_length hok,hpost⟩)
end
end
end Mine.Internal
end
section
open PySem PySem.Calls PyProof.Rows PySem.W PyProof.V
namespace Mine.Internal
section
mutual
variable{v w:AV}{sp:List Nat}{s:Shared}{apos:Pos}{c1:Nat}{x:Expr}{vs:List AV}
variable{W:Wd}{d:Nat}{H H' aq aO dK:Hp}{cx:CX}{ls:Ls}{B:BgT}{ρ:List Addr}
def PV.dropF{F1 F:Raws}{u:Value}{s':Shared}(h:PV W B ρ (F1++F) s v H' u s'):PV W B ρ F s v H' u s':=
 fy h λB' ρ' g R r z=>⟨B',ρ',g,R.dropF,r,z⟩
def xP{D:List (PyData×PyData)}:∀{t:List (Int×List Nat)},CZ D=some t->∀i:Int,PySem.Spec.lookup (.int i) D=(t.lookup i).map λs=> .str (aN s):=by
 induction D with
 | nil=>intro t h i;erw [<- ae h];rfl
 | cons p r ih=>
  intro t h i;rcases p with⟨k,v⟩
  cases k using PyData.casesOn with
  | int j=>cases v using PyData.casesOn with
   | str s=>
    refine aL (bK.mp h) λt' ht e=>?_
    erw [<- e]
    have ih:=ih ht i;by_cases e:j=i
    ·subst e;simp[PySem.Spec.lookup,same_int,f9,gY]
    ·have e2:(i==j)=false:=beq_eq_false_iff_ne.mpr λq=>e q.symm;simp only[PySem.Spec.lookup,same_int,f9,e2];simpa [e]using ih
   | _=>exact dz h
  | _=>exact dz h
def I1(Cl:W.Cl){ks:List (Option Expr)}{vs:List Expr}{kp pos:Pos}{k dv:Expr}{D:List (PyData×PyData)}{t:List (Int×List Nat)}{i:Int}{y:List Nat}(hg:eZ (.Dict ks vs kp) apos pos [k,dv]=true)(hD:litPairs ks vs=some D)(ht:CZ D=some t)(h1:intKeyed D=true)(h2:(intKeysOf D).Nodup)(h3:ks.all (·.isSome)=true)(h4:ks.length=vs.length)(h5:ks.length<=15)(h6:ks≠ [])
  (h:TL W d cx ls H [k,dv] [.int i, .str y] H'):TE W d cx ls H (.Call (.Attribute (.Dict ks vs kp) "get" apos) [k,dv] [] pos) (.str ((t.lookup i).getD y)) H':=by
 intro A B ρ F env s hA hB hE hF hR;have hs:[k,dv].all cu=true:=by unfold eZ kU at hg;simp only[cv]at hg;exact hg.2.1
 show wpAny W.M A (eval (.Call (.Attribute (.Dict ks vs kp) "get" apos) [k,dv] [] pos) env) _ _ _
 erw [mh hg]
 refine aF (Dict_lits_int hD h1 h2 h3 h4 h6 h5 λa o i7 tk hlo ho hT hk=>aF (d9 (aF (bW ?_))));refine aL (id hT) λkvs hi hf=>?_;refine gy (id hi) λes ep ex zz=>?_;have hfree:s.heap.get? a=none:=bP hlo;have bX:RM W B ρ ((a,o)::F) H i7:=hR.allocF hfree hk ho;have hBa:B a=none:=by
  refine aL hR λrs S zz=>?_
  exact(S.free hfree).1
 refine getMethod_builtin (T:="dict") (s:={s with heap:=i7,toks:=tk}) (bH o ho ex.1) PySem.F.plainAttrs_dict PySem.F.slot_dict_get PySem.F.type_dict_get (λb e=>by cases e;exact bH o ho ex.2.1) ?_;refine fA hs ?_;refine dN (h pos A B ρ ((a,o)::F) env {s with heap:=i7,toks:=tk} hA hB hE (hF.sub λzz m=> .tail _ m) bX) (λus dQ xq1=>fy xq1 λfY d7 eD eI fH gT=>⟨fT _,?_⟩) λzz zy e=>e;refine dX (jl gT) λu1 us1 eu1 q gT=>?_;refine dX (jl gT) λu2 us2 eu2 q' gT=>?_;obtain⟨t1,eq1⟩:=rH q;obtain⟨t2,eq2⟩:=mw q'
 erw [eu1,eu2,vq gT,eq1,eq2]
 have Og:dQ.heap.get? a=some o:=eI.frm (a,o) (.head _);have T:TabAt (PySem.intKind W.prog W.w) PyData.int dQ.heap a D:=⟨Ju (F:=F) (h:=s.heap) Cl hB hBa,kvs,rG.mpr (bH o Og hi),hf⟩;refine call_get2_intTab T (Flat.str _ _) λv hv=>?_;have e:(PySem.Spec.lookup (.int i) D).getD (.str (aN y))= .str (aN ((t.lookup i).getD y)):=by
  rw[xP ht]
  cases t.lookup i <;> rfl
 rw[e]at hv;obtain⟨t',e3⟩:=hv.str_inv
 erw [e3]
 refine PV.dropF (F1:= [(a,o)]) (d0 fY d7 eD eI (⟨fH.1,fH.2,fH.3⟩) .str)
def sf{M:Model}{A:Around}{E:Value->Shared->Prop}{env:Env}{a b:Str}{k2 k3:Nat}{q2 q3 p:Pos}{Q:List Value->Shared->Prop}(h:Q [.str a s.toks, .str b (s.toks+1)] {s with toks:=s.toks+1+1}):
  wpAny M A (spliced (backTo p (fS [.Constant (.str a) k2 q2, .Constant (.str b) k3 q3] env))) Q E s:=by
 rw[dR (by rfl)];refine spliced_cons (x:=eval (.Constant (.str a) k2 q2) env) (wpAny_Constant_str ?_);show wpAny _ _ (spliced (backTo p (fS [.Constant (.str b) k3 q3] env))) _ _ _;rw[dR (by rfl)];exact spliced_cons (x:=eval (.Constant (.str b) k3 q3) env) (wpAny_Constant_str (spliced_nil h))
def CS{p:List Nat}{c2:Nat}{z1 z2:List Nat}(hv:Fh p v c1 z1 c2 z2=some w){q:Prop}
  (k:∀t,v= .str t->w= .str (p++du c2 z2 (du c1 z1 t))->cF t.length=true->cF (du c1 z1 t).length=true->cF (p.length+(du c2 z2 (du c1 z1 t)).length)=true->z1.length<=14->z2.length<=14-> [c1]≠z1-> [c2]≠z2->q):q:=by
 cases v using AV.casesOn with
 | str t=>
  refine kA hv λh e=>?_;obtain⟨h,h7⟩:=ag.mp h;obtain⟨h,h6⟩:=ag.mp h;obtain⟨h,h5⟩:=ag.mp h;obtain⟨h,h4⟩:=ag.mp h;obtain⟨h,h3⟩:=ag.mp h;obtain⟨h1,h2⟩:=ag.mp h;exact k t rfl (ae e).symm h1 h2 h3 (ab h4) (ab h5) (beq_eq_false_iff_ne.mp ((gL _).mp h6)) (beq_eq_false_iff_ne.mp ((gL _).mp h7))
 | _=>exact dz hv
def MB{p:Str}{r1 r2:Str}{y1 z1 y2 z2:Str}{c2:Nat}{k1 k2 k3 k4 k5:Nat}{q1 q2 q3 q4 q5 p1 p2 p3 p4 pos:Pos}(e1:r1="replace")(e2:r2="replace")(hp1:(p1.endLine==p2.line)=true)(hp3:(p3.endLine==p4.line)=true)(hx:iU x=true)(hy1:y1=aN [c1])(hy2:y2=aN [c2])
  (h:TE W d cx ls H x v H')(hv:Fh p.cps.toList v c1 z1.cps.toList c2 z2.cps.toList=some w):
  TE W d cx ls H (.BinOp (.Constant (.str p) k1 q1) .Add (.Call (.Attribute (.Call (.Attribute x r1 p1) [.Constant (.str y1) k2 q2, .Constant (.str z1) k3 q3] [] p2) r2 p3) [.Constant (.str y2) k4 q4, .Constant (.str z2) k5 q5] [] p4) pos) w H':=by
 refine CS hv λt ev ew c1' c2' c3' l4 l5 c6' c7'=>?_
 erw [e1,e2,hy1,hy2,ew]
 rw[ev]at h;clear hv ev ew hy1 hy2 e1 e2;intro A B ρ F env s hA hB hE hF hR;obtain⟨z1,rfl⟩:∃z,z1=aN z:=⟨_,(gY z1).symm⟩;obtain⟨z2,rfl⟩:∃z,z2=aN z:=⟨_,(gY z2).symm⟩;have l1:=fg c1';have l2:=fg c2';have ne1:(aN [c1]==aN z1)=false:=beq_eq_false_iff_ne.mpr λe=>c6' (sx e);have ne2:(aN [c2]==aN z2)=false:=beq_eq_false_iff_ne.mpr λe=>c7' (sx e);refine wpAny_BinOp (wpAny_Constant_str ?_);have g1:eZ x p1 p2 [.Constant (.str (aN [c1])) k2 q2, .Constant (.str (aN z1)) k3 q3]=true:=by unfold eZ;erw [hx,hp1];rfl
 have g2:eZ (.Call (.Attribute x "replace" p1) [.Constant (.str (aN [c1])) k2 q2, .Constant (.str (aN z1)) k3 q3] [] p2) p3 p4 [.Constant (.str (aN [c2])) k4 q4, .Constant (.str (aN z2)) k5 q5]=true:=by unfold eZ;erw [hp3];rfl
 erw [mh g2]
 refine aF ?_
 erw [mh g1]
 refine aF (wpAny_with_toks (n:=s.toks+1) (aw _) (dN (h A B ρ F env {s with toks:=s.toks+1} hA hB hE hF hR) (λu bz xq2 hT=>fy xq2 λbZ br JG bX b9 dY=>aF (d9 (aF (bW ?_)))) λzz zy e=>e.elim));obtain⟨tv,ev⟩:=mw dY
 erw [ev]
 refine GM.replace ?_;refine fA rfl ?_;refine sf ⟨fT _,?_⟩;have hT1:bz.toks≠0:=Nat.ne_of_gt (al (k6 _) hT);refine wpAny_with_toks (n:=bz.toks+1) (by simp) (SC.replaceW hT1 (by simp) (by simp) ne1 (by erw [cy];exact aj l1 (ab rfl)) (by erw [cy];exact l4) λt' k hk=>?_)
 erw [xq]
 refine aF (d9 (aF (bW (GM.replace ?_))));refine fA rfl ?_;refine sf ⟨fT _,?_⟩;have hT2:k≠0:=by intro e;subst e;exact absurd hk (by simp)
 refine SC.replaceW hT2 (by simp) (by simp) ne2 (by erw [cy];exact aj l2 (ab rfl)) (by erw [cy];exact l5) λt'' k'=>?_
 erw [xq]
 have hvp:VR W bZ br (.str p.cps.toList) (.str p s.toks):=by
  have:=VR.str (W:=W) (B:=bZ) (ρ:=br) (s:=p.cps.toList) (t:=s.toks);rwa [gY]at this
 have PD:RM W bZ br F H' bz.heap:=bX;refine lu (uI (d:=d) (x:=p.cps.toList) (y:=du c2 z2 (du c1 z1 t)) c3' A bZ br F _ _ _ hA (hB.mono JG.b) PD hvp .str) λu s' z=>?_;refine fy z λB' ρ' a b c e=>?_;exact d0 B' ρ' (JG.trans a) b (⟨c.1.trans b9.1,c.2.trans b9.2,c.3.trans b9.3⟩) e
def xW(h:j2 sp vs=some v):∃xs,gX vs=some xs/\cF (xs.foldr (λw n=>w.length+sp.length+n) 0)=true/\cF vs.length=true/\v= .str (oe sp xs):=by
 unfold j2 at h;cases hx:gX vs with
 | none=>rw[hx]at h;exact dz h
 | some xs=>
  rw[hx]at h
  try dsimp only at h
  cases hb:(cF (xs.foldr (λw n=>w.length+sp.length+n) 0) && cF vs.length)with
  | false=>rw[hb]at h;exact dz h
  | true=>rw[hb]at h;exact CG xs rfl ((ag.mp hb).1) ((ag.mp hb).2) ((ae h).symm)
def HF{xs:List (List Nat)}(h:cF (xs.foldr (λw n=>w.length+sp.length+n) 0)=true):JoinOk (aN sp) (xs.map aN):=by
 unfold JoinOk
 erw [StrLaws.joinTotal,qK]
 have:=fg h;have e2:(2:Nat) ^ 24=16777216:=rfl;unfold Builtin.Str.tooLong ly
 erw [decide_eq_false (iA.mpr (aj this (ab rfl)))];rfl
def nZ:∀a b:List (Str×Tok),fI a=fI b->a.map (·.1)=b.map (·.1)
 | [],[],_=>rfl
 | [],_::_,h=>nomatch h
 | _::_,[],h=>nomatch h
 | x::a,y::b,h=>by
  obtain⟨h1,h2⟩:=dB h
  erw [bk,bk,(AF.inj h1).1,nZ a b h2];rfl
def Ck{acc:List (Str×Tok)}{its:List Value}(h1:(fI acc).toArray.size=its.toArray.size)(h2:∀(j:Nat) (v:Value),(fI acc).toArray[j]? =some v->its.toArray[its.toArray.size-1-j]? =some v):fI acc=its.reverse:=by
 have h1:acc.length=its.length:=by erw [<- (show(fI acc).length=acc.length from aK ..)];exact h1
 apply List.ext_getElem?;intro j;by_cases hjj:j<its.length
 ·have hj2:j<(fI acc).length:=by erw [(show(fI acc).length=acc.length from aK ..)];exact(gj bf ay [(bf,bF),(bF,ay)] aR hjj (lq h1))
  have h3:=h2 j (fI acc)[j] (by erw [dH];exact bl hj2)
  erw [bl hj2,List.getElem?_reverse hjj]
  rw[dH]at h3;exact h3.symm
 ·erw [(ey (by erw [(show(fI acc).length=acc.length from aK ..)];exact(gj ai ay [(ai,bF),(bF,ay)] aR (pJ h1) (iA.mp hjj)))),(ey (by erw [fR];exact iA.mp hjj))];rfl
def AG(W1:W.Top){o:Expr}{f:Str}{fp pos pos':Pos}{k:Nat}(hg:eZ o apos pos [.Call (.Name f fp) [x] [] pos']=true)(hx:cu x=true)(ho:Ei f=false)(hs:cx.scope.names.lookup f=some .globalImplicit)(hgl:Gl W f (.type "reversed"))
  (h:TE W d cx ls H o (.str sp) aq)(h':TE W d cx ls aq x (.ref k) H')(hk:aD H' k=some vs)(hj:j2 sp vs.reverse=some v):TE W d cx ls H (.Call (.Attribute o "join" apos) [.Call (.Name f fp) [x] [] pos'] [] pos) v H':=by
 intro A B ρ F env s hA hB hE hF hR;have hsl:=dZ;show wpAny W.M A (eval (.Call (.Attribute o "join" apos) [.Call (.Name f fp) [x] [] pos'] [] pos) env) _ _ _
 erw [mh hg]
 refine aF (h.go hA hB hE hF hR λbZ br u bz cg dh cQ bX b9 dY=>aF (d9 (aF (bW ?_))));obtain⟨t,ev⟩:=mw dY
 erw [ev]
 refine GM.join ?_;refine fA rfl ?_;rw[dR (by rfl)];refine spliced_cons (x:=eval (.Call (.Name f fp) [x] [] pos') env) ?_;refine wpAny_Call_NameR (kx W1 hE (kL ho).1 hgl hs (bX.base dh) (fA (by erw [oZ,hx];rfl) ?_));rw[dR hx];refine spliced_cons (h'.go hA dh hE cQ bX λfY d7 u dQ eD iJ jb eI fH gT=>spliced_nil ⟨oQ _,?_⟩);refine aL (mT gT) λl ev hl=>?_
 erw [ev]
 refine aL (eA eI hk hl) λits p q=>?_;refine call_reversed_list p (spliced_nil ⟨fT _,?_⟩);have fr:dQ.heap.get? dQ.heap.objs.size=none:=bP (aw _);have hne:l≠dQ.heap.objs.size:=λe=>by
  refine aL p λo ho zz=>?_
  rw[e,fr]at ho;exact dz ho
 have k0:∀b o,dQ.heap.get? b=some o->(dQ.heap.push (revObj l ((its.toArray.size:Int)-1))).get? b=some o:=λb o e=>cG _ e;refine B3 (xW hj) λxs hxs hfit hroom e0=>?_
 erw [e0]
 rw[fR]at hroom;refine aL (qt _ _ _ hxs q.reverse) λlr hlr elr=>?_;have hlen:its.toArray.size=vs.length:=q.length;have hall:∀(i:Nat) (w:Value),its[i]? =some w->∃y u,w=AF y u:=λi w hw=>by
  have hm:w∈its.reverse:=List.mem_reverse.mpr (bM hw)
  rw[hlr]at hm
  refine aL (cM.mp hm) λpr zz e=>?_
  exact ug _ _ e.symm
 refine EJ ((Walks.listRev (A:=A.in1.in1) hA.handled dQ.heap.objs.size l hne its.toArray).toS) (λi s st=>st.2.1.typeIs) (eC (aX _) (⟨_,dD _ rfl,rfl,by simp[revObj]⟩) (aL p λo ho z=>⟨o,k0 _ _ ho,z⟩)) (λb hb=>?_) (.head _) (λi w hw=>hall _ w (by simpa using hw)) (hlen ▸zS hroom) λs' acc hm ha=>?_
 ·show b<(dQ.heap.push (revObj l ((its.toArray.size:Int)-1))).objs.size
  erw [(show(dQ.heap.push (revObj l ((its.toArray.size:Int)-1))).objs.size=dQ.heap.objs.size+1 from Array.size_push ..)]
  rcases aQ.mp hb with e | e
  ·erw [e];exact cI _
  ·erw [fD.mp e];refine aL p λo ho zz=>?_;exact ou (Heap.lt_size ho)
 ·erw [nZ _ _ ((Ck ha.1 ha.2).trans hlr),elr]
  refine⟨HF hfit,λt' k=>?_⟩
  erw [(show Txt.join (aN sp) (xs.map aN)=aN (oe sp xs)from(StrLaws.glued_eq_join _ _).trans (ti sp xs))]
  refine d0 fY d7 (cg.trans eD) (eI.ext λb o e=>?_) ((b9.trans fH).trans ⟨hm.gens,hm.drawn,hm.os⟩) .str;exact hm.heap b o (λq=>by rw[fD.mp q,fr]at e;exact dz e) (k0 _ _ e)
end
end
end Mine.Internal
end
section
open PySem PySem.Calls PyProof.Rows PySem.W
namespace Mine.Internal
mutual
variable{α γ β δ:Type}{h:Heap}{F' rs fr:Raws}{B':BgT}{ρ':List Addr}{k':Nat}{p':Pos}{dvs:List Value}{ps:List Str}
def St.perm{B:BgT}{F:Raws}(p:F.Perm F')(S:St B F rs h):St B F' rs h:=
 ⟨S.keep,λx hx=>S.frm x (p.mem_iff.mpr hx),λx hx=>(eC ((S.got x hx).1) ((S.got x hx).2.1) (λq=>(S.got x hx).2.2 ((p.map _).mem_iff.mpr q))),S.nod,((p.map _).nodup_iff).mp S.nodF⟩
def RM.perm{W:Wd}{B:BgT}{ρ:List Addr}{F:Raws}{H:Hp}(p:F.Perm F')(R:RM W B ρ F H h):RM W B ρ F' H h:=aL R λrs S C=>⟨rs,S.perm p,C⟩
def RM.front{W:Wd}{B:BgT}{ρ:List Addr}{F:Raws}{x:Addr×Obj}{H:Hp}(R:RM W B ρ (x::(fr++F)) H h):RM W B ρ (fr++(x::F)) H h:=R.perm (lU.symm)
def RM.back{W:Wd}{B:BgT}{ρ:List Addr}{F:Raws}{x:Addr×Obj}{H:Hp}(R:RM W B ρ (fr++(x::F)) H h):RM W B ρ (x::(fr++F)) H h:=R.perm lU
def s6{F1 F2:Raws}{d:Addr}{o o':Obj}{p:Addr×Obj}(h:p∈F1++(d,o)::F2)(hne:p.1≠d):p∈F1++(d,o')::F2:=by
 rcases dy.mp h with q | q
 ·exact cT _ q
 ·rcases aQ.mp q with rfl | q
  ·exact absurd rfl hne
  ·exact bB _ (.tail _ q)
end
section
mutual
variable{F fr:Raws}{env:Env}{s bz s':Shared}{i:Nat}{A:Around}{r:Flow}{av:AV}{x:Str}{bZ:BgT}{br:List Addr}{e o:Expr}{ls':Ls}{ks:List (List Nat×AV)}{kvs:List (Str×Value)}
variable{W:Wd}{d:Nat}{cx:CX}{ls:Ls}{H H' aq aO dK:Hp}
def vL{j:Nat}{av':AV}(e:(ls.set i (some av))[j]? =some (some av')):(j=i/\av'=av)\/(j≠i/\ls[j]? =some (some av')):=by
 by_cases q:j=i
 ·subst q;rw[List.getElem?_set_self']at e;exact jV e λzz zy e=> .inl ⟨rfl,(ae e).symm⟩
 ·rw[mr (Ne.symm q)]at e;exact .inr ⟨q,e⟩
def uB{p p':Str->Option Value->Prop}(ok:CXOk W cx){B:BgT}{ρ:List Addr}{v:Value}(hi:cx.slots.lookup x=some i)(hv:VR W B ρ av v)(lo:∀y j,cx.slots.lookup y=some j->∃w,p y w/\∀av',ls[j]? =some (some av')->∃u,w=some u/\VR W B ρ av' u)
  (h1:p' x (some v))(h2:∀y w,y≠x->p y w->p' y w)(y:Str)(j:Nat)(hj:cx.slots.lookup y=some j):∃w,p' y w/\∀av',(ls.set i (some av))[j]? =some (some av')->∃u,w=some u/\VR W B ρ av' u:=by
 by_cases q:y=x
 ·subst q;exact bH (some v) h1 (λav' e=>(vL e).elim (λz=>⟨v,rfl,z.2 ▸hv⟩) λz=>absurd (ae (hj.symm.trans hi)) z.1)
 ·exact(lo y j hj).elim λw z=>⟨w,h2 y w q z.1,λav' e=>(vL e).elim (λz=>absurd (ok.inj y x i (z.1 ▸hj) hi) q) λe=>z.2 av' e.2⟩
def uo.other{F':Raws}{m m':Str->Option Value}{y:Str}{w:Option Value}(l:uo F env m y w)(hm:m y=w->m' y=w)(hF:∀c o,env.cells.lookup y=some c->(c,o)∈F->o.data= .cell w->(c,o)∈F'):uo F' env m' y w:=
 l.imp (λl=>⟨l.1,hm l.2⟩) λl=>⟨l.1,l.2.elim λc z=>z.elim λo z=>(i5 c o z.1 (hF c o z.1 z.2.1 z.2.2) z.2.2)⟩
def jY.store(ok:CXOk W cx){B:BgT}{ρ:List Addr}{E:Value->Shared->Prop}{v:Value}{Q:Unit->Shared->Prop}
  (hE:EnvOk cx env)(hf:jY W B ρ fr env cx ls)(hR:RM W B ρ (fr++F) H s.heap)(hi:cx.slots.lookup x=some i)(hv:VR W B ρ av v)
  (h:∀h' tk fr',jY W B ρ fr' env cx (ls.set i (some av))->RM W B ρ (fr'++F) H h'->Q () {s with heap:=h',toks:=tk}):wpAny W.M A (storeName env x v) Q E s:=by
 refine ua hf λo m hL N inj nofree lo=>?_;refine aL hR λrs S C=>?_;have hkind:env.scope.kind= .function:=by erw [hE.scope];exact hE.kind
 have nsL:s.heap.Ns env.locals m:=S.ns (cT _ hL) N;refine dX N λes ep e1 e2 e3=>?_;have nc:∀{c:Addr} {oc:Obj} {w:Option Value},(c,oc)∈fr->oc.data= .cell w->c≠env.locals:=fun{c oc w} hm hd q=>by
  rw[q]at hm
  rw[S.uniq (cT _ hm) (cT _ hL),e1]at hd
  exact nomatch hd
 refine aL (lo x i hi) λw l zz=>?_;rcases l with⟨k,e⟩ | ⟨k,c,oc,hc,hm,hd⟩
 ·
  refine y4 (List.append_of_mem hL) λf1 f2 hfr=>?_;refine wpAny_storeName_local k nsL (λh' hn' hs'=>?_) (by erw [hkind];rfl);refine gS hn' λo' es' ep' g1 g2 g3 g4=>?_;have S':St B ((f1++(env.locals,o')::f2)++F) rs h':=by
   rw[hfr,aA,jk]at S
   erw [aA,jk];exact S.updF hs' g1
  exact h h' (s.toks+1) _ ⟨o',_,bB _ (.head _),(i5 es' ep' g2 g3 g4),inj,nofree,uB ok hi hv lo (.inl ⟨k,if_pos rfl⟩) λy w hy l=>
   l.other (λe=>(if_neg hy).trans e) λc oc zz hm hd=>s6 (hfr ▸hm) (nc hm hd)⟩ ⟨rs,S',C⟩
 ·
  have k:=k.resolve_right (nofree x);refine y4 (List.append_of_mem hm) λg1 g2 hfr=>?_;refine wpAny_storeName_cell hkind k hc (bH oc ((S.frm (c,oc) (cT _ hm)).1) hd) (λh' hn' hs'=>?_);refine aL hn' λo' p1 p2=>?_;have S':St B ((g1++(c,o')::g2)++F) rs h':=by
   rw[hfr,aA,jk]at S
   erw [aA,jk];exact S.updF hs' p1
  exact h h' s.toks _ ⟨o,m,s6 (hfr ▸hL) (nc hm hd).symm,(i5 es ep e1 e2 e3),inj,nofree,uB ok hi hv lo (.inr ⟨.inl k,c,o',hc,bB _ (.head _),p2⟩) λy w hy l=>
   l.other id λc' oc' hc' hm' zz=>s6 (hfr ▸hm') λq=>hy (inj y x c ((show c'=c from q) ▸hc') hc)⟩ ⟨rs,S',C⟩
abbrev PS(W:Wd)(B:BgT)(ρ:List Addr)(F:Raws)(s:Shared)(env:Env)(cx:CX)(ls:Ls)(H':Hp)(s':Shared):Prop:=
 ∃B' ρ' fr',Grow B ρ B' ρ'/\RM W B' ρ' (fr'++F) H' s'.heap/\Rest s s'/\jY W B' ρ' fr' env cx ls
inductive FlR(W:Wd)(B:BgT)(ρ:List Addr):Fl->Flow->Prop
 | next:FlR W B ρ .next .next
 | cont:FlR W B ρ .cont .cont
 | ret {v:AV} {u:Value}:VR W B ρ v u->FlR W B ρ (.ret v) (.ret u)
abbrev Tt(W:Wd)(B:BgT)(ρ:List Addr)(fl:Fl)(r:Flow):Prop:=Fl.casesOn (motive:=λzz=>Prop) fl (r= .next) (r= .cont) λv=> ∃u,r= .ret u/\VR W B ρ v u
def FlR.inv{W:Wd}{B:BgT}{ρ:List Addr}{fl:Fl}(h:FlR W B ρ fl r):Tt W B ρ fl r:=FlR.casesOn (motive:=λfl r zz=>Tt W B ρ fl r) h rfl rfl λz=>(bH _ rfl z)
@[elab_as_elim] theorem FlR.isNext{W:Wd}{B:BgT}{ρ:List Addr}{P:Flow->Prop}(h:FlR W B ρ .next r)(k:P .next):P r:=(show r= .next from h.inv) ▸k
@[elab_as_elim] theorem FlR.isRet{W:Wd}{B:BgT}{ρ:List Addr}{v:AV}{P:Flow->Prop}(h:FlR W B ρ (.ret v) r)(k:∀u,VR W B ρ v u->P (.ret u)):P r:=aL (h.inv) λu e z=>e ▸k u z
@[elab_as_elim] theorem FlR.on{W:Wd}{B:BgT}{ρ:List Addr}{f:Fl}{P:Flow->Prop}(h:FlR W B ρ f r)(q:f= .next\/f= .cont)(a:P .next)(b:P .cont):P r:=by
 cases f using Fl.casesOn with
 | next=>exact h.isNext a
 | cont=>exact(show r= .cont from h.inv) ▸b
 | _=>cases q using cV with
  | inl q=>exact nomatch q
  | inr q=>exact nomatch q
abbrev PF(W:Wd)(B:BgT)(ρ:List Addr)(F:Raws)(s:Shared)(env:Env)(cx:CX)(fl:Fl)(ls:Ls)(H':Hp)(r:Flow)(s':Shared):Prop:=
 ∃B' ρ' fr',Grow B ρ B' ρ'/\RM W B' ρ' (fr'++F) H' s'.heap/\Rest s s'/\jY W B' ρ' fr' env cx ls/\FlR W B' ρ' fl r
def PS.glue{B:BgT}{ρ:List Addr}(g:Grow B ρ bZ br)(r:Rest s bz)(h:PS W bZ br F bz env cx ls H' s'):PS W B ρ F s env cx ls H' s':=
 gS h λB' ρ' fr' a b c e=>⟨B',ρ',fr',g.trans a,b,r.trans c,e⟩
def PF.glue{B:BgT}{ρ:List Addr}{fl:Fl}{fw:Flow}(g:Grow B ρ bZ br)(r:Rest s bz)(h:PF W bZ br F bz env cx fl ls H' fw s'):PF W B ρ F s env cx fl ls H' fw s':=
 gS h λB' ρ' fr' a b c e=>⟨B',ρ',fr',g.trans a,b,r.trans c,e⟩
abbrev TA(W:Wd)(d:Nat)(cx:CX)(ls:Ls)(H:Hp)(t:Expr)(v:AV)(ls':Ls)(H':Hp):Prop:=
 ∀(A:Around) (B:BgT) (ρ:List Addr) (fr F:Raws) (env:Env) (s:Shared) (u:Value),AOk A d->gu W B->EnvOk cx env->jY W B ρ fr env cx ls->RM W B ρ (fr++F) H s.heap->VR W B ρ v u->
  wpAny W.M A (assign t env u) (λzz s'=>PS W B ρ F s env cx ls' H' s') fh s
abbrev Tq(W:Wd)(d:Nat)(cx:CX)(ls:Ls)(H:Hp)(t:Env->Sem Flow)(fl:Fl)(ls':Ls)(H':Hp):Prop:=
 ∀(A:Around) (B:BgT) (ρ:List Addr) (fr F:Raws) (env:Env) (s:Shared),AOk A d->gu W B->EnvOk cx env->jY W B ρ fr env cx ls->RM W B ρ (fr++F) H s.heap->
  wpAny W.M A (t env) (λr s'=>PF W B ρ F s env cx fl ls' H' r s') fh s
noncomputable abbrev TS(W:Wd)(d:Nat)(cx:CX)(ls:Ls)(H:Hp)(st:Stmt)(fl:Fl)(ls':Ls)(H':Hp):Prop:=Tq W d cx ls H (exec st) fl ls' H'
noncomputable abbrev vk(W:Wd)(d:Nat)(cx:CX)(ls:Ls)(H:Hp)(st:List Stmt)(fl:Fl)(ls':Ls)(H':Hp):Prop:=Tq W d cx ls H (execs st) fl ls' H'
def TE.goS{v:AV}(h:TE W d cx ls H e v H'){B:BgT}{ρ:List Addr}{Q:Value->Shared->Prop}(hA:AOk A d)(hB:gu W B)(hE:EnvOk cx env)(hF:jY W B ρ fr env cx ls)(hR:RM W B ρ (fr++F) H s.heap)
  (k:∀B' ρ' u s',Grow B ρ B' ρ'->gu W B'->jY W B' ρ' fr env cx ls->RM W B' ρ' (fr++F) H' s'.heap->Rest s s'->VR W B' ρ' v u->Q u s'):wpAny W.M A (eval e env) Q fh s:=
 TE.go h hA hB hE hF.frm hR λB' ρ' u s' g b zz R r z=>k B' ρ' u s' g b (hF.mono g) R r z
def TB.goS{b:Bool}(h:TB W d cx ls H e b H'){B:BgT}{ρ:List Addr}{Q:Bool->Shared->Prop}(hA:AOk A d)(hB:gu W B)(hE:EnvOk cx env)(hF:jY W B ρ fr env cx ls)(hR:RM W B ρ (fr++F) H s.heap)
  (k:∀B' ρ' s',Grow B ρ B' ρ'->gu W B'->jY W B' ρ' fr env cx ls->RM W B' ρ' (fr++F) H' s'.heap->Rest s s'->Q b s'):wpAny W.M A (isTrue e env (eval e env)) Q fh s:=
 TB.go h hA hB hE hF.frm hR λB' ρ' s' g b zz R r=>k B' ρ' s' g b (hF.mono g) R r
def jq{v:AV}(h:jg ls i v=some ls'):ls'=ls.set i (some v):=by
 unfold jg at h
 split at h
 ·exact(ae h).symm
 ·cases h
def wG(ok:CXOk W cx){pos:Pos}{v:AV}(hx:cx.slot x=some i)(h:jg ls i v=some ls'):TA W d cx ls H (.Name x pos) v ls' H:=by
 intro A B ρ fr F env s u hA hB hE hF hR hv
 erw [jq h]
 exact wpAny_assign_Name (hF.store ok hE hR (jo hx).2 hv λh' tk fr' f R=>(pR B ρ fr' (.refl B ρ) R (⟨rfl,rfl,rfl⟩) f))
def I7(W1:W.Top)(Cl:W.Cl){n:Str}{pos:Pos}{x v:AV}{f:Nat}(hn:W.nm[f]? =some n)(h:TE W d cx ls H o x aq)(ha:lY W.P aq x f v=some H'):TA W d cx ls H (.Attribute o n pos) v ls H':=by
 intro A B ρ fr F env s u hA hB hE hF hR hv
 erw [arm_assign_Attribute]
 refine aF (bW (h.goS hA hB hE hF hR λbZ br ov bz cg dh cQ bX b9 dY=>aF (d9 (aF (bW ?_)))));refine lu (zO W1 Cl hn ha hA dh bX dY (hv.mono cg)) λzz s' xq1=>dX xq1 λfY d7 eD eI fH=>wpAny_release (pR fY d7 fr (cg.trans eD) eI (b9.trans fH) (cQ.mono eD))
def DEnt.nodupSet{B:BgT}{ρ:List Addr}{x:List Nat}{v:AV}{u:Value}(hv:VR W B ρ v u)(r:DEnt W B ρ ks kvs):(kvs.map (·.1)).Nodup->DEnt W B ρ (nS x v ks) (stored kvs (aN x) u):=by
 induction r with
 | nil=>exact λzz=> .cons hv .nil
 | @cons k _ w _ es hw r ih=>
  intro hn;rw[bk,bR]at hn;unfold nS;by_cases e:k=x
  ·subst e
   erw [if_pos rfl]
   have e2:es.map (λkv=>if kv.1=aN k then(kv.1,u)else kv)=es:=by
    conv=>rhs;rw[<- List.map_id es]
    refine List.map_congr_left λa ha=>?_
    have:a.1≠aN k:=λq=>hn.1 (by erw [<- q];exact cM.mpr (bH a ha rfl))
    erw [if_neg this];rfl
   have:stored ((aN k,w)::es) (aN k) u=(aN k,u)::es:=by
    unfold stored
    erw [(if_pos (by simp)),bk,e2];simp
   erw [this]
   exact .cons hv r
  ·erw [if_neg e]
   have e':¬ (aN k=aN x):=λq=>e (by have:=congrArg (λw:Str=>w.cps.toList) q;exact this);have:stored ((aN k,w)::es) (aN x) u=(aN k,w)::stored es (aN x) u:=by
    unfold stored
    have:((aN k,w)::es).any (λkv=>decide (kv.1=aN x))=es.any (λkv=>decide (kv.1=aN x)):=by
     erw [oY,decide_eq_false e',Bool.false_or];rfl
    erw [this]
    split
    ·erw [bk,if_neg e'];rfl
    ·rfl
   erw [this]
   exact .cons hw (ih hn.2)
def DEnt.len{B:BgT}{ρ:List Addr}(r:DEnt W B ρ ks kvs):kvs.length=ks.length:=
 DEnt.rec (motive:=λks kvs zz=>kvs.length=ks.length) rfl (λzz zy ih=>congrArg (· +1) ih) r
def zN{x i v:AV}(h:mW H x i v=some H'){B:BgT}{ρ:List Addr}{u w y:Value}(hR:RM W B ρ F H s.heap)(hx:VR W B ρ x u)(hi:VR W B ρ i w)(hy:VR W B ρ v y):
  wpAny W.M A (setItem u w y) (PU W B ρ F s H') fh s:=zF h hx λk a ha h=>jd h λc hc h=>by
 cases c using Cell.casesOn with
 | list vs=>
  refine mP (show fL i _=some H' from h) hi λz t h=>Lh h λj h=>kA h λhb h=>?_;refine fy (hR.listA ha hc) λits n e2 e3 e4 e5=>?_;obtain⟨h1,h2⟩:=ag.mp hb;have h1:=cL.mp h1;have hl:its.toArray.size=vs.length:=e3.length
  erw [<- ae h]
  refine ki_setAt e2 (fE j) (Int.lt_trans (fW.mpr h1) (Ey h2)) (by erw [hl];exact fW.mpr h1) ?_;refine i5 B ρ (.refl B ρ) (e5 _ _ _ (if(its.toArray.setIfInBounds j y).size==its.toArray.size then n else n+1) (ur ..) ?_ (e3.set j hy)) (⟨rfl,rfl,rfl⟩)
  erw [rS _ e2 rfl]
  simp[Obj.mapSeq,PySem.W.listOf]
 | dict es=>
  refine sv (show il i _=some H' from h) hi λj t h=>kA h λhb h=>?_;refine ua (hR.dictA ha hc) λo kvs e2 e3 e4 e5 e6=>?_
  erw [<- ae h]
  refine wpAny_setItem_pairs (knd:=PySem.strKind W.prog W.w) (k:=aN j) (beq_self_eq_true _) (rG.mpr (bH o e2 e3)) (hsz:=by erw [e4.len];exact zS hb) λh' hm hs=>?_;refine aL (rG.mp hm) λo' ho' hi'=>?_;refine ua e3 λzz zy zx zw zv zu hn=>?_;exact i5 B ρ (.refl B ρ) (e6 _ _ _ _ hs ho' hi' (e4.nodupSet hy hn)) (⟨rfl,rfl,rfl⟩)
 | n zz zy=>exact dz h
def MI{i:Expr}{pos:Pos}{x y v:AV}(h:TE W d cx ls H o x aq)(h':TE W d cx ls aq i y aO)(ha:mW aO x y v=some H'):TA W d cx ls H (.Subscript o i pos) v ls H':=by
 intro A B ρ fr F env s u hA hB hE hF hR hv
 erw [arm_assign_Subscript]
 refine aF (bW (h.goS hA hB hE hF hR λbZ br ov bz cg dh cQ bX b9 dY=>aF (bW (h'.goS hA dh hE cQ bX λfY d7 iv dQ eD iJ jb eI fH gT=>aF (d9 (aF (bW ?_)))))));refine lu (zN ha eI (dY.mono eD) gT ((hv.mono cg).mono eD)) λzz s' xq2=>dX xq2 λnX j0 iy jD lz=>wpAny_release (pR nX j0 fr ((cg.trans eD).trans iy) jD ((b9.trans fH).trans lz) (jb.mono iy))
end
end
section
mutual
variable{W:Wd}{B:BgT}{ρ:List Addr}{F:Raws}{H:Hp}{h h':Heap}{I:Addr}{o o':Obj}
def St.shed{rs:Raws}(S:St B ((I,o)::F) rs h)(k:∀b x,b≠I->h.get? b=some x->h'.get? b=some x):St B F rs h':=by
 have hI:=S.frm (I,o) (.head _);have nd:=bR.mp S.nodF;refine⟨λb x e=>k b x (λq=>?_) (S.keep b x e),λp hp=>⟨k _ _ (λq=>nd.1 (qG hp q)) (S.frm p (.tail _ hp)).1,(S.frm p (.tail _ hp)).2⟩,λp hp=>?_,S.nod,nd.2⟩
 ·rw[q,hI.2]at e;exact dz e
 ·have:=S.got p hp;rw[bk,aQ,not_or]at this;exact eC (k _ _ this.2.2.1 this.1) this.2.1 this.2.2.2
def RM.shed(R:RM W B ρ ((I,o)::F) H h)(k:∀b x,b≠I->h.get? b=some x->h'.get? b=some x):RM W B ρ F H h':=aL R λrs S C=>⟨rs,S.shed k,C⟩
def RM.turn(R:RM W B ρ ((I,o)::F) H h)(k:fe I h h')(e:h'.get? I=some o'):RM W B ρ ((I,o')::F) H h':=aL R λrs S C=>⟨rs,S.updF (F1:= []) k e,C⟩
def RM.at(R:RM W B ρ ((I,o)::F) H h):h.get? I=some o:=R.frm (I,o) (.head _)
end
end
mutual
inductive It1(W:Wd)(B:BgT)(ρ:List Addr):It->Obj->Prop
 | str {x:List Nat} {t:Tok} {i:Nat} {s:List Nat} {o:Obj}:s=x.drop i->o.cls= .type (eX (aN x))->o.data= .fields #[.str (aN x) t, .int i 0]->It1 W B ρ (.str s) o
 | U {a:Addr} {ot o:Obj} {its:List Value} {vs ws:List AV} {i:Nat}:B a=some ot->tm ot its->VRs W B ρ vs its->ws=vs.drop i->o.cls= .type "tuple_iterator"->o.data= .fields #[.ref a, .int i 0]->It1 W B ρ (.vals ws) o
 | a {a:Addr} {ot o:Obj} {its:List Value} {vs ws:List AV} {i:Nat}:B a=some ot->pN ot its->VRs W B ρ vs its->ws=vs.drop i->o.cls= .type "list_iterator"->o.data= .fields #[.ref a, .int i 0]->It1 W B ρ (.vals ws) o
 | rng {x c:Int} {n:Nat}:It1 W B ρ (.rng x c n) {cls:= .type "range_iterator",data:= .fields #[rawInt x,rawInt (n:Int),rawInt c]}
 | cell {k i:Nat} {a:Addr} {o:Obj}:ρ[k]? =some a->o.cls= .type "list_iterator"->o.data= .fields #[.ref a, .int i 0]->It1 W B ρ (.cell k i) o
def It1.mono{W:Wd}{B:BgT}{ρ:List Addr}(g:Grow B ρ B' ρ'){it:It}{o:Obj}(h:It1 W B ρ it o):It1 W B' ρ' it o:=
 It1.casesOn (motive:=λit o zz=>It1 W B' ρ' it o) h .str (λa b c d e f=> .U (g.b _ _ a) b (c.mono g) d e f) (λa b c d e f=> .a (g.b _ _ a) b (c.mono g) d e f) .rng λa b c=> .cell (g.at a) b c
end
section
mutual
variable{A:Around}{s:Shared}{i:Nat}{I:Addr}{Q:Option Value->Shared->Prop}{it:It}{F:Raws}{α:Type}{x:List Nat}{t:Tok}
variable{W:Wd}{d:Nat}{H:Hp}{B:BgT}{ρ:List Addr}
def vR{x:AV}(h:gA H x=some it){u:Value}(hA:AOk A d)(hR:RM W B ρ F H s.heap)(hx:VR W B ρ x u){Q:Value->Shared->Prop}
  (k:∀I o h',It1 W B ρ it o->RM W B ρ ((I,o)::F) H h'->Q (.ref I) {s with heap:=h'}):wpAny W.M A (pyIter u) Q fh s:=by
 have new:∀(o:Obj),o.isFreed=false->It1 W B ρ it o->Q (.ref s.heap.objs.size) {s with heap:=s.heap.push o}:=λo hf hi=>
  k _ o _ hi (hR.allocF (bP (aw _)) (λzz zy e=>cG _ e) (dD _ hf))
 cases x using AV.casesOn with
 | str w=>obtain⟨t,e⟩:=mw hx;erw [e];rw[<- ae h]at new;exact wpAny_pyIter_strU (new _ rfl (.str (i:=0) rfl rfl rfl))
 | U vs=>
  refine gS (Dw hx) λa o its e e1 e2 e3=>?_
  erw [e];rw[<- ae h]at new
  exact wpAny_pyIter_tuple (eF _ (hR.keep _ _ e1) e2.1 e2.2) (new _ rfl (.U (i:=0) e1 e2 e3 rfl rfl rfl))
 | a vs=>
  refine gS (sd hx) λa o its e e1 e2 e3=>?_
  erw [e];rw[<- ae h]at new
  exact wpAny_pyIter_list (eF _ (hR.keep _ _ e1) e2.1 e2.2) (new _ rfl (.a (i:=0) e1 e2 e3 rfl rfl rfl))
 | rng a b c=>
  obtain⟨l,o,e,e1,t,u,w,e2⟩:=Nk hx;rw[e2]at e1;refine kA h λhs h=>?_
  erw [e];rw[<- ae h]at new
  refine wpAny_pyIter_range (hR.keep _ _ e1) hs ?_
  erw [(show eN a b c=((g9 a b c:Nat):Int)from(bU (jr a b c)).symm)]
  exact new _ rfl .rng
 | ref k=>
  refine aL (mT hx) λa e ha=>?_;refine jV h λvs hv e2=>?_
  erw [e];rw[<- e2]at new
  refine aL (eA hR hv ha) λits p q=>?_;exact wpAny_pyIter_list p (new _ rfl (.cell (i:=0) ha rfl rfl))
 | _=>exact dz h
def kZ{l:List α}{c:α}{r:List α}(h:c::r=l.drop i):l[i]? =some c/\r=l.drop (i+1):=by
 have h1:(l.drop i)[0]? =some c:=by erw [<- h];rfl
 refine⟨by simpa using h1,?_⟩;have:r=(l.drop i).tail:=by erw [<- h];rfl
 erw [this,List.tail_drop];rfl
def nO{l:List α}(h:([]:List α)=l.drop i):l[i]? =none:=by
 have h1:(l.drop i)[0]? =none:=by erw [<- h];rfl
 simpa using h1
def DG{c:Nat}{E:Value->Shared->Prop}(hit:s.heap.IsStrIter I (eX (aN x)) (aN x) t i)(hc:x[i]? =some c)
  (hQ:∀h',h'.IsStrIter I (eX (aN x)) (aN x) t (i+1)->fe I s.heap h'->Q (some (.str ⟨#[c]⟩ s.toks)) {s with heap:=h',toks:=s.toks+1}):wpAny W.M A (pyNext (.ref I)) Q E s:=by
 have hc':(aN x).cps[i]? =some c:=by simpa [aN]using hc
 unfold eX at hit hQ;cases ha:(aN x).cps.all (· <128)
 ·rw[ha]at hit hQ;exact wpAny_pyNext_wide_item hit hc' hQ
 ·rw[ha]at hit hQ;exact wpAny_pyNext_ascii_item hit hc' hQ
def GJ{E:Value->Shared->Prop}(hh:A.handled=none)(hit:s.heap.IsStrIter I (eX (aN x)) (aN x) t i)(hc:x[i]? =none)
  (hQ:∀h',Heap.ExtBut I s.heap h'->Q none {s with heap:=h'}):wpAny W.M A (pyNext (.ref I)) Q E s:=by
 have hc':(aN x).cps[i]? =none:=by simpa [aN]using hc
 unfold eX at hit;cases ha:(aN x).cps.all (· <128)
 ·rw[ha]at hit;exact wpAny_pyNext_wide_end hh hit hc' hQ
 ·rw[ha]at hit;exact wpAny_pyNext_ascii_end hh hit hc' hQ
abbrev NK(W:Wd)(B:BgT)(ρ:List Addr)(F:Raws)(H:Hp)(I:Addr)(Q:Option Value->Shared->Prop)(s:Shared)(r:Option (AV×It)):Prop:=
 bb (motive:=λzz=>Prop) r (∀h',RM W B ρ F H h'->Q none {s with heap:=h'}) λp=> ∀o' h' tk u,It1 W B ρ p.2 o'->RM W B ρ ((I,o')::F) H h'->VR W B ρ p.1 u->Q (some u) {s with heap:=h',toks:=tk}
set_option tactic.hygienic true in
theorem nJ{r:Option (AV×It)}(h:it.next H=some r){o:Obj}(hh:A.handled=none)(hi:It1 W B ρ it o)(hR:RM W B ρ ((I,o)::F) H s.heap)
  (k:NK W B ρ F H I Q s r):wpAny W.M A (pyNext (.ref I)) Q fh s:=by
 have fin:NK W B ρ F H I Q s none->∀h',Heap.ExtBut I s.heap h'->Q none {s with heap:=h'}:=λk h' e=>k h' (hR.shed λb x hb z=>e b x hb z);have go:∀{p h' o' tk u},NK W B ρ F H I Q s (some p)->It1 W B ρ p.2 o'->fe I s.heap h'->h'.get? I=some o'->VR W B ρ p.1 u->Q (some u) {s with heap:=h',toks:=tk}:=λk i z g v=>k _ _ _ _ i (hR.turn z g) v;have hk:=hR.keep;have hl:∀{j a vs},aD H j=some vs->ρ[j]? =some a->∃its,s.heap.IsList a its.toArray/\VRs W B ρ vs its:=λe ha=>eA hR e ha;have ho:=hR.at;clear hR;revert h ho
 cases hi using It1.casesOn with
 | str hs hc hd=>
  rename_i l _
  cases l using au with
  | nil=>exact λh ho=>GJ hh (eF _ ho hc hd) (nO hs) (fin (Gj (G:=NK W B ρ F H I Q s) h k))
  | cons c l=>exact λh ho=>DG (eF _ ho hc hd) (kZ hs).1 λh' xq1 z=>dq xq1 λo' g1 g2 g3=>go (Gj (G:=NK W B ρ F H I Q s) h k) (.str (kZ hs).2 g2 g3) z g1 .str
 | U e1 e2 e3 e4 e5 e6=>
  rename_i ws _
  have ht:=hk _ _ e1
  cases ws using au with
  | nil=>exact λh ho=>wpAny_pyNext_tuple_end hh (eF _ ho e5 e6) ⟨_,ht,e2.1,e2.2⟩ (e3.getN (nO e4)) (fin (Gj (G:=NK W B ρ F H I Q s) h k))
  | cons v ws=>exact λh ho=>aL (e3.getA (kZ e4).1) λ_ hu hv=>
   wpAny_pyNext_tuple_item (eF _ ho e5 e6) ⟨_,ht,e2.1,e2.2⟩ hu λh' xq2 z=>dq xq2 λo' g1 g2 g3=>go (Gj (G:=NK W B ρ F H I Q s) h k) (.U e1 e2 e3 (kZ e4).2 g2 g3) z g1 hv
 | a e1 e2 e3 e4 e5 e6=>
  rename_i ws _
  have ht:=hk _ _ e1
  cases ws using au with
  | nil=>exact λh ho=>wpAny_pyNext_list_end hh (eF _ ho e5 e6) ⟨_,ht,e2.1,e2.2⟩ (e3.getN (nO e4)) (fin (Gj (G:=NK W B ρ F H I Q s) h k))
  | cons v ws=>exact λh ho=>aL (e3.getA (kZ e4).1) λ_ hu hv=>
   wpAny_pyNext_list_item (eF _ ho e5 e6) ⟨_,ht,e2.1,e2.2⟩ hu λh' xq3 z=>dq xq3 λo' g1 g2 g3=>go (Gj (G:=NK W B ρ F H I Q s) h k) (.a e1 e2 e3 (kZ e4).2 g2 g3) z g1 hv
 | rng=>
  rename_i x c n
  cases n using bL with
  | zero=>exact λh ho=>wpAny_pyNext_range_end hh ho (Int.le_refl 0) (fin (Gj (G:=NK W B ρ F H I Q s) h k))
  | succ n=>exact λh ho=>wpAny_pyNext_range_item ho (Int.natCast_pos.mpr (k6 n)) λh' g z=>go (Gj (G:=NK W B ρ F H I Q s) h k) .rng z (show h'.get? I=_ from(Int.add_sub_cancel (n:Int) 1) ▸g) .int
 | cell e1 e5 e6=>
  rename_i j i a _
  refine λh ho=>jV h λvs hv e=>?_;refine aL (hl hv e1) λits p q=>?_;rw[<- e]at k;generalize hg:vs[i]? =y at k
  cases y using bb with
  | none=>exact wpAny_pyNext_list_end hh (eF _ ho e5 e6) p (q.getN hg) (fin k)
  | some v=>
   refine aL (q.getA hg) λu hu hvr=>?_;exact wpAny_pyNext_list_item (eF _ ho e5 e6) p hu λh' xq4 z=>dq xq4 λo' g1 g2 g3=>go k (.cell e1 g2 g3) z g1 hvr
end
end
mutual
abbrev drawn(H:Hp):Nat->It->Option (List AV×It)
 | 0,it=>some ([],it)
 | n+1,it=>match it.next H with
  | some (some (v,it'))=>(drawn H n it').map fun(vs,e)=>(v::vs,e)
  | _=>none
def tJ(H:Hp):∀vs:List AV,drawn H vs.length (.vals vs)=some (vs, .vals [])
 | []=>rfl
 | v::r=>by
  show(drawn H r.length (.vals r)).map _=_
  erw [tJ H r];rfl
def tK{H:Hp}{k:Nat}{xs:List AV}(hk:aD H k=some xs):∀(n i:Nat),i+n=xs.length->drawn H n (.cell k i)=some (xs.drop i, .cell k xs.length)
 | 0,i,e=>by
  have:i=xs.length:=by omega
  subst this;simp[drawn]
 | n+1,i,e=>by
  have hlt:i<xs.length:=by exact(gj bf ay [(aJ ai l9,ay)] aR (pJ e))
  unfold drawn;have:It.next H (.cell k i)=some (some (xs[i], .cell k (i+1))):=by
   simp only[It.next,hk,Option.map_some,bl hlt]
  erw [this]
  try dsimp only
  erw [(tK hk n (i+1) (by exact(bI (gj (aJ bf ay) bF [(aJ ai cN,bF)] aR (pJ e)) (gj ai (aJ cN bF) [(ai,aJ ay l9)] aR (lq e)))))]
  erw [List.drop_eq_getElem_cons hlt];rfl
end
section
mutual
variable{vs:List AV}{ts:List Expr}{x:AV}{t:Expr}{ls':Ls}
variable{W:Wd}{d:Nat}{cx:CX}{ls:Ls}{H H' aq aO dK:Hp}{B:BgT}{ρ:List Addr}
set_option tactic.hygienic true in
theorem Bl:∀(n:Nat) {it it':It} {vs:List AV} {A:Around} {F:Raws} {s:Shared} {I:Addr} {o:Obj} {Q:List Value->Shared->Prop},drawn H n it=some (vs,it')->A.handled=none->It1 W B ρ it o->RM W B ρ ((I,o)::F) H s.heap->
  (∀us o' h' tk,It1 W B ρ it' o'->RM W B ρ ((I,o')::F) H h'->VRs W B ρ vs us->Q us {s with heap:=h',toks:=tk})->wpAny W.M A (draw (.ref I) n) Q fh s
 | 0,it,it',vs,A,F,s,I,o,Q,h,hh,hi,hR,k=>by
  cases h
  show wpAny _ _ (pure []) Q fh s;exact bJ (k [] o s.heap s.toks hi hR .nil)
 | n+1,it,it',vs,A,F,s,I,o,Q,h,hh,hi,hR,k=>by
  unfold drawn at h
  split at h
  ·rename_i v Sb hn
   refine aL (bK.mp h) λxq1 h1 h2=>?_;obtain⟨ws,e⟩:=xq1;cases h2
   show wpAny _ _ (pyNext (.ref I) >>=_) Q fh s;refine aF (nJ hn hh hi hR λo' h' tk u i' R' hv=>?_);refine aF (bW (Bl n (s:={s with heap:=h',toks:=tk}) h1 hh i' R' λus o'' h'' tk' i'' R'' hus=>bJ ?_));exact k _ o'' h'' tk' i'' R'' (.cons hv hus)
  ·cases h
set_option tactic.hygienic true in
theorem qE(hx:(∃ws,x= .U ws/\ws=vs)\/∃k,x= .ref k/\aD H k=some vs){A:Around}{F:Raws}{s:Shared}{u:Value}(hA:AOk A d)(hR:RM W B ρ F H s.heap)(hv:VR W B ρ x u){Q:List Value->Shared->Prop}
  (k:∀us h' tk,RM W B ρ F H h'->VRs W B ρ vs us->Q us {s with heap:=h',toks:=tk}):wpAny W.M A (unpackItems u vs.length none) Q fh s:=by
 have main:∀{it it':It},gA H x=some it->drawn H vs.length it=some (vs,it')->it'.next H=some none->wpAny W.M A (notIterableAtAll u) (λb s'=>b=false/\s'=s) fh s->wpAny W.M A (unpackItems u vs.length none) Q fh s:=by
  intro it it' h1 h2 h3 h4
  unfold unpackItems
  refine aF (dN h4 (λb s' xq2=>Nf xq2 λe1 e2=>?_) λ_ _ e=>e)
  subst e1 e2
  simp only[fF,if_false]
  refine aF (bW (vR h1 hA hR hv λI o h' hi R=>?_))
  refine aF (bW (Bl vs.length h2 hA.handled hi R λus o' h'' tk hi' R' hus=>?_))
  have hl:=hus.length
  erw [(if_neg (by exact(λzz=>(CL [(bf,ay),(ay,ai)] aR zz (lq hl)))))]
  refine aF (bW (nJ h3 hA.handled hi' R' λHS jD=>?_))
  simp only[Option.isSome_none,fF,if_false]
  exact bJ (k us HS tk jD hus)
 rcases hx with⟨ws,rfl,rfl⟩ | ⟨j,rfl,hk⟩
 ·refine main rfl (tJ H ws) rfl ?_;cases hv with
  | U e1 e2 e3=>
   unfold notIterableAtAll;exact aF (wpAny_specialOf (bH _ (hR.keep _ _ e1) e2.1) PySem.F.slot_tuple_iter.lookup (bJ ⟨rfl,rfl⟩))
 ·refine main (it:= .cell j 0) (by show(aD H j).map _=_;erw [hk];rfl) (by erw [(tK hk _ 0 (by exact dn ..)),nD];rfl) ?_ ?_
  ·show(aD H j).map _=_
   erw [hk];simp
  ·cases hv
   rename_i ha
   refine aL (eA hR hk ha) λits xq3 q=>?_;refine dq xq3 λo ho hc _=>?_;unfold notIterableAtAll;exact aF (wpAny_specialOf (bH o ho hc) PySem.F.slot_list_iter.lookup (bJ ⟨rfl,rfl⟩))
def iO(h:cu t=true)(ts:List Expr)(env:Env):jA (t::ts) env=(false,assign t env)::jA ts env:=by
 induction t using bD <;> first | rfl | cases h
def nz(h:ts.all cu=true)(env:Env):(jA ts env).length=ts.length/\(jA ts env).findIdx? (·.1)=none:=by
 induction ts with
 | nil=>exact⟨rfl,rfl⟩
 | cons t ts ih=>
  simp only[oZ,cv]at h;have:=ih h.2;rw[iO h.1];refine⟨by erw [aI,aI,this.1];rfl,?_⟩
  erw [List.findIdx?_cons]
  simp[this.2]
abbrev J1(W:Wd)(d:Nat)(cx:CX)(ls:Ls)(H:Hp)(ts:List Expr)(vs:List AV)(ls':Ls)(H':Hp):Prop:=
 ∀(A:Around) (B:BgT) (ρ:List Addr) (fr F:Raws) (env:Env) (s:Shared) (us:List Value),AOk A d->gu W B->EnvOk cx env->jY W B ρ fr env cx ls->RM W B ρ (fr++F) H s.heap->VRs W B ρ vs us->
  wpAny W.M A (gD ((jA ts env).map (·.2)) us) (λzz s'=>PS W B ρ F s env cx ls' H' s') fh s
def BX:J1 W d cx ls H [] [] ls H:=λA B ρ fr F env s us hA hB hE hF hR hv=>by
 cases hv
 exact bJ (pR B ρ fr (.refl B ρ) hR (.refl s) hF)
def yP{v:AV}{bA:Ls}(ht:cu t=true)(h:TA W d cx ls H t v bA aq)(h':J1 W d cx bA aq ts vs ls' H'):J1 W d cx ls H (t::ts) (v::vs) ls' H':=by
 intro A B ρ fr F env s us hA hB hE hF hR hv;cases hv with
 | cons q qs=>
  rw[iO ht];show wpAny W.M A (gD (assign t env::(jA ts env).map (·.2)) (_::_)) _ _ _;rw[gD];refine aF (bW (lu (h A B ρ fr F env s _ hA hB hE hF hR q) λzz bz xq4=>gS xq4 λbZ br j5 cg bX b9 cQ=>?_));exact lu (h' A bZ br j5 F env bz _ hA (hB.mono cg.b) hE cQ bX (qs.mono cg)) λzz zy z=>z.glue cg b9
def Ga{k:Nat}{pos:Pos}(hx:(∃ws,x= .U ws/\ws=vs)\/∃k,x= .ref k/\aD H k=some vs)(ht:ts.all cu=true)(hl:ts.length=vs.length)(h:J1 W d cx ls H ts vs ls' H'):TA W d cx ls H (.Tuple ts k pos) x ls' H':=by
 intro A B ρ fr F env s u hA hB hE hF hR hv
 erw [arm_assign_Tuple]
 refine aF (d9 ?_);unfold unpack;have hn:=nz ht env
 erw [hn.1,hn.2,hl]
 refine aF (bW (qE hx hA hR hv λus h' tk R hus=>?_));exact lu (h A B ρ fr F env {s with heap:=h',toks:=tk} us hA hB hE hF R hus) λzz s' xq5=>gS xq5 λB' ρ' fr' g R' r f=>(pR B' ρ' fr' g R' (⟨r.1,r.2,r.3⟩) f)
end
end
section
mutual
variable{e:Expr}{st:Stmt}{sts:List Stmt}{v:AV}
variable{W:Wd}{d:Nat}{cx:CX}{ls bA pI ls':Ls}{H H' aq aO dK:Hp}
def IX:vk W d cx ls H [] .next ls H:=λA B ρ fr F env s hA hB hE hF hR=>wpAny_execs_nil (iR B ρ fr (.refl B ρ) hR (.refl s) hF .next)
def FZ{fl:Fl}(h:TS W d cx ls H st .next bA aq)(h':vk W d cx bA aq sts fl ls' H'):vk W d cx ls H (st::sts) fl ls' H':=by
 intro A B ρ fr F env s hA hB hE hF hR;refine wpAny_execs_cons (lu (h A B ρ fr F env s hA hB hE hF hR) λr bz xq1=>jT xq1 λbZ br j5 cg bX b9 cQ q=>?_);cases q
 exact lu (h' A bZ br j5 F env bz hA (hB.mono cg.b) hE cQ bX) λzz zy z=>z.glue cg b9
def yN{fl:Fl}(h:TS W d cx ls H st fl ls' H')(hn:fl≠ .next):vk W d cx ls H (st::sts) fl ls' H':=by
 intro A B ρ fr F env s hA hB hE hF hR;refine wpAny_execs_cons (lu (h A B ρ fr F env s hA hB hE hF hR) λr bz z=>?_);refine jT (id z) λbZ br j5 cg bX b9 cQ q=>?_
 induction q using FlR.casesOn
 ·exact absurd rfl hn
 ·exact z
 ·exact z
def IU{pos:Pos}:TS W d cx ls H (.Pass pos) .next ls H:=λA B ρ fr F env s hA hB hE hF hR=>wpAny_Pass (iR B ρ fr (.refl B ρ) hR (.refl s) hF .next)
def IW{pos:Pos}:TS W d cx ls H (.Continue pos) .cont ls H:=λA B ρ fr F env s hA hB hE hF hR=>wpAny_Continue (iR B ρ fr (.refl B ρ) hR (.refl s) hF .cont)
def IT{pos:Pos}:TS W d cx ls H (.Return none pos) (.ret .none) ls H:=λA B ρ fr F env s hA hB hE hF hR=>wpAny_Return_none (iR B ρ fr (.refl B ρ) hR (.refl s) hF (.ret .none))
def Mr{pos:Pos}(h:TE W d cx ls H e v H'):TS W d cx ls H (.Return (some e) pos) (.ret v) ls H':=λA B ρ fr F env s hA hB hE hF hR=>
 wpAny_Return_some (h.goS hA hB hE hF hR λB' ρ' u s' g b f R r z=>(iR B' ρ' fr g R r f (.ret z)))
def q9(h:kJ e=true)(t:Option Expr)(l:Nat)(env:Env):swapsWith e t l env=pure false:=by
 induction e using bD <;> first | rfl | exact ll h
def IV{pos:Pos}(he:kJ e=true)(h:TE W d cx ls H e v H'):TS W d cx ls H (.Expr e pos) .next ls H':=λA B ρ fr F env s hA hB hE hF hR=>by
 refine wpAny_Expr_any (h.goS hA hB hE hF hR λB' ρ' u s' g b f R r z=>(iR B' ρ' fr g R r f .next)) ?_ (q9 he _ _ _);unfold interactive
 erw [hE.scope,hE.kind];rfl
def Ms{c:Expr}{a b:List Stmt}{pos:Pos}{q:Bool}{fl:Fl}(h:TB W d cx ls H c q aq)(h':vk W d cx ls aq (if q=true then a else b) fl ls' H'):TS W d cx ls H (.If c a b pos) fl ls' H':=by
 intro A B ρ fr F env s hA hB hE hF hR;refine wpAny_If (h.goS hA hB hE hF hR λbZ br bz cg dh cQ bX b9=>?_)
 induction q using aE <;> exact lu (h' A bZ br fr F env bz hA dh hE cQ bX) λzz zy z=>z.glue cg b9
end
end
mutual
class inductive WRun(W:Wd)(d:Nat)(cx:CX)(c:Expr)(b:List Stmt):Nat->Ls->Hp->Fl->Ls->Hp->Prop
 | done {n:Nat} {ls:Ls} {H H':Hp}:TB W d cx ls H c false H'->WRun W d cx c b n ls H .next ls H'
 | turn {n:Nat} {ls bA ls':Ls} {H aq aO H':Hp} {f fl:Fl}:TB W d cx ls H c true aq->vk W d cx ls aq b f bA aO->(f= .next\/f= .cont)->WRun W d cx c b n bA aO fl ls' H'->WRun W d cx c b (n+1) ls H fl ls' H'
 | ret {n:Nat} {ls ls':Ls} {H aq H':Hp} {v:AV}:TB W d cx ls H c true aq->vk W d cx ls aq b (.ret v) ls' H'->WRun W d cx c b n ls H (.ret v) ls' H'
class inductive FRun(W:Wd)(d:Nat)(cx:CX)(t:Expr)(b:List Stmt):Nat->Ls->Hp->It->Fl->Ls->Hp->Prop
 | done {n:Nat} {ls:Ls} {H:Hp} {it:It}:it.next H=some none->FRun W d cx t b n ls H it .next ls H
 | turn {n:Nat} {ls bA pI ls':Ls} {H aq H':Hp} {it it':It} {v:AV} {f fl:Fl}:it.next H=some (some (v,it'))->TA W d cx ls H t v bA H->vk W d cx bA H b f pI aq->(f= .next\/f= .cont)->FRun W d cx t b n pI aq it' fl ls' H'->FRun W d cx t b (n+1) ls H it fl ls' H'
 | ret {n:Nat} {ls bA ls':Ls} {H H':Hp} {it it':It} {v w:AV}:it.next H=some (some (v,it'))->TA W d cx ls H t v bA H->vk W d cx bA H b (.ret w) ls' H'->FRun W d cx t b n ls H it (.ret w) ls' H'
end
section
mutual
variable{b:List Stmt}{A:Around}{s:Shared}{t c:Expr}{env:Env}{B:BgT}{ρ:List Addr}{I:Addr}{F:Raws}{m n:Nat}{gF:Ls}{bT:Hp}{u:Value}{o:Obj}{Q:Unit->Shared->Prop}{it:It}
variable{W:Wd}{d:Nat}{cx:CX}{ls bA pI ls':Ls}{H H' aq aO dK:Hp}
abbrev LT(I:Nat->Shared->Prop)(R:Result->Shared->Prop)(n:Nat)(f:Flow)(s:Shared):Prop:=
 match f with
 | .next | .cont=> ∃m,m<n/\I m s
 | .brk=>R (.ok .next) s
 | .ret v=>R (.ok (.ret v)) s
def Av{R:Result->Shared->Prop}(I:Nat->Shared->Prop)(t:∀n s,I n s->wpAny W.M A (isTrue c env (eval c env)) (λq dQ=>if q=true then wpAny W.M A (execs b env) (LT I R n) fh dQ else wpAny W.M A (execs [] env) (λf oA=>R (.ok f) oA) fh dQ) fh s)
  (n:Nat)(h:I n s):codeAny W.M A (.whileLoop c b [] env) R s:=
 codeAny_whileLoop I (λn s h=>dN (t n s h) (λq dQ z=>by
  cases q using aE with
  | false=>exact Jv z
  | true=>exact Jv (lu z λf zz z=>by induction f using Flow.casesOn <;> exact z)) λzz zy e=>e.elim) n h
abbrev WI(W:Wd)(d:Nat)(cx:CX)(c:Expr)(b:List Stmt)(B:BgT)(ρ:List Addr)(F:Raws)(s:Shared)(env:Env)(fl:Fl)(ls':Ls)(H':Hp)(m:Nat)(s':Shared):Prop:=
 ∃B' ρ' fr' gF bT,Grow B ρ B' ρ'/\Rest s s'/\jY W B' ρ' fr' env cx gF/\RM W B' ρ' (fr'++F) bT s'.heap/\WRun W d cx c b m gF bT fl ls' H'
def y7(hA:AOk A d)(hB:gu W B)(hE:EnvOk cx env){ls':Ls}{H':Hp}{fl:Fl}(w:WRun W d cx c b m gF bT fl ls' H'):
  ∀{R:Result->Shared->Prop} {bZ:BgT} {br:List Addr} {j5:Raws} {bz:Shared},(∀r s',PF W B ρ F s env cx fl ls' H' r s'->R (.ok r) s')->Grow B ρ bZ br->Rest s bz->jY W bZ br j5 env cx gF->RM W bZ br (j5++F) bT bz.heap->
   wpAny W.M A (isTrue c env (eval c env)) (λq dQ=>if q=true then wpAny W.M A (execs b env) (LT (WI W d cx c b B ρ F s env fl ls' H') R m) fh dQ else wpAny W.M A (execs [] env) (λf oA=>R (.ok f) oA) fh dQ) fh bz:=by
 cases w using WRun.casesOn with
 | done h1=>exact λk cg b9 cQ bX=>(h1.goS hA (hB.mono cg.b) hE cQ bX λfY d7 dQ eD iJ jb eI fH=>wpAny_execs_nil (k _ _ (iR fY d7 _ (cg.trans eD) eI (b9.trans fH) jb .next)))
 | @turn n _ _ ls' _ _ _ H' _ fl h1 h2 h3 h4=>exact λk cg b9 cQ bX=>(h1.goS hA (hB.mono cg.b) hE cQ bX λfY d7 dQ eD iJ jb eI fH=>(lu (h2 A fY d7 _ F env dQ hA iJ hE jb eI) λr oA xq2=>jT xq2 λnX j0 yn iy jD lz CH q=>
   have z:∃k,k<n+1/\WI W d cx c b B ρ F s env fl ls' H' k oA:=⟨_,cI _,nX,j0,yn,_,_,(cg.trans eD).trans iy,(b9.trans fH).trans lz,CH,jD,h4⟩
   q.on h3 z z))
 | ret h1 h2=>exact λk cg b9 cQ bX=>(h1.goS hA (hB.mono cg.b) hE cQ bX λfY d7 dQ eD iJ jb eI fH=>(lu (h2 A fY d7 _ F env dQ hA iJ hE jb eI) λr oA xq3=>jT xq3 λnX j0 yn iy jD lz CH q=>
   q.isRet λu z=>k _ _ (iR nX j0 yn ((cg.trans eD).trans iy) jD ((b9.trans fH).trans lz) CH (.ret z))))
def FY{pos:Pos}{fl:Fl}(h:WRun W d cx c b n ls H fl ls' H'):TS W d cx ls H (.While c b [] pos) fl ls' H':=by
 intro A B ρ fr F env s hA hB hE hF hR;refine wpAny_While (Av (WI W d cx c b B ρ F s env fl ls' H') (λm bz xq4=>Do xq4 λbZ br j5 gF bT cg b9 cQ bX w=>y7 hA hB hE w ?_ cg b9 cQ bX) n (EW B ρ fr ls H (.refl B ρ) (.refl s) hF hR h));exact λr s' z=>z
set_option backward.match.sparseCases true in
theorem mc{n:String}{vs:Array Value}(ho:s.heap.get? I=some o)(hc:o.cls= .type n)(hd:o.data= .fields vs)
  (hn:["enumerate","zip","dict_itemiterator","dict_reverseitemiterator","odict_iterator","itertools.zip_longest","itertools.pairwise"].contains n=false)(h:Q () s):wpAny W.M A (hW t (.ref I) u) Q fh s:=by
 unfold hW;have go:wpAny W.M A (do
   let o <- load I
   match o.cls,o.data with
   | .type n, .fields vs=>
    if(["enumerate","zip","dict_itemiterator","dict_reverseitemiterator","odict_iterator","itertools.zip_longest","itertools.pairwise"].contains n && vs[0]? ==some (rawInt (match u with | .ref a=>a | _=>0)))=true then do
     rule "for.unpacks-the-owned-tuple"
     updateField I 0 .none
    else pure ()
   | _,_=>pure ()) Q fh s:=by
  refine aF (wpAny_load ho ?_)
  erw [hc,hd]
  try dsimp only
  erw [hn]
  exact bJ h
 split
 ·induction u using gO <;> first | exact bJ h | exact go
 ·induction u using gO <;> first | exact bJ h | exact go
 ·exact bJ h
def xc(x:Str):["enumerate","zip","dict_itemiterator","dict_reverseitemiterator","odict_iterator","itertools.zip_longest","itertools.pairwise"].contains (eX x)=false:=by
 unfold eX;split <;> decide
def Eh(hi:It1 W B ρ it o)(ho:s.heap.get? I=some o)(h:Q () s):wpAny W.M A (hW t (.ref I) u) Q fh s:=by
 cases hi using It1.casesOn with
 | str zz hc hd=>exact mc ho hc hd (xc _) h
 | U zz zy zx zw hc hd=>exact mc ho hc hd (by decide) h
 | a zz zy zx zw hc hd=>exact mc ho hc hd (by decide) h
 | rng=>exact mc ho rfl rfl (by decide) h
 | cell zz hc hd=>exact mc ho hc hd (by decide) h
abbrev FI(W:Wd)(d:Nat)(cx:CX)(t:Expr)(b:List Stmt)(B:BgT)(ρ:List Addr)(F:Raws)(s:Shared)(env:Env)(fl:Fl)(ls':Ls)(H':Hp)(I:Addr)(m:Nat)(s':Shared):Prop:=
 ∃B' ρ' fr' gF bT j3 xx,Grow B ρ B' ρ'/\Rest s s'/\jY W B' ρ' fr' env cx gF/\It1 W B' ρ' j3 xx/\RM W B' ρ' (fr'++((I,xx)::F)) bT s'.heap/\FRun W d cx t b m gF bT j3 fl ls' H'
def yp{bz:Shared}(hA:AOk A d)(hB:gu W B)(hE:EnvOk cx env){f:Fl}{v:AV}{it':It}(h2:TA W d cx ls H t v bA H)(h3:vk W d cx bA H b f pI aq)
  {bZ:BgT}{br:List Addr}{j5:Raws}(cg:Grow B ρ bZ br)(b9:Rest s bz)(cQ:jY W bZ br j5 env cx ls){oN:Obj}{ui:Heap}{tk:Tok}{u:Value}(xX:It1 W bZ br it' oN)(eI:RM W bZ br ((I,oN)::(j5++F)) H ui)(hv:VR W bZ br v u){P:Flow->Shared->Prop}
  (k:∀o7 kC rz r my,Grow B ρ o7 kC->Rest s my->jY W o7 kC rz env cx pI->It1 W o7 kC it' oN->RM W o7 kC (rz++((I,oN)::F)) aq my.heap->FlR W o7 kC f r->P r my):
  wpAny W.M A (hW t (.ref I) u) (λzz s'=>wpAny W.M A (assign t env u) (λzz dQ=>wpAny W.M A (execs b env) P fh dQ) fh s') fh {bz with heap:=ui,toks:=tk}:=
 (Eh xX eI.at ((lu (h2 A bZ br j5 ((I,oN)::F) env {bz with heap:=ui,toks:=tk} u hA (hB.mono cg.b) hE cQ eI.front hv) λzz oA xq5=>gS xq5 λnX j0 yn iy jD lz CH=>
  (lu (h3 A nX j0 yn ((I,oN)::F) env oA hA ((hB.mono cg.b).mono iy.b) hE CH jD) λr my xq6=>jT xq6 λo7 kC rz pS nB vN wh q=>
   k o7 kC rz r my ((cg.trans iy).trans pS) ((Rest.trans (s':=bz) b9 ⟨lz.1,lz.2,lz.3⟩).trans vN) wh (xX.mono (iy.trans pS)) nB q))))
abbrev FT(W:Wd)(A:Around)(env:Env)(t:Expr)(b:List Stmt)(I:Addr)(J:Nat->Shared->Prop)(R:Result->Shared->Prop)(m:Nat)(r:Option Value)(bz:Shared):Prop:=
 match r with
 | none=>wpAny W.M A (execs [] env) (λf oA=>R (.ok f) oA) fh bz
 | some v=>wpAny W.M A (hW t (.ref I) v) (λzz s'=>wpAny W.M A (assign t env v) (λzz dQ=>wpAny W.M A (execs b env) (LT J R m) fh dQ) fh s') fh bz
def Fv{R:Result->Shared->Prop}{i:Addr}(I:Nat->Shared->Prop)(tu:∀n s,I n s->wpAny W.M A (pyNext (.ref i)) (FT W A env t b i I R n) fh s)
  (n:Nat)(h:I n s):codeAny W.M A (.forLoop t (.ref i) b [] env) R s:=
 codeAny_forLoop_any I (λn s h=>dN (tu n s h) (λr dQ z=>by
  cases r using bb with
  | none=>exact Jv z
  | some v=>exact Jv (lu z λzz zy z=>Jv (lu z λzz zy z=>Jv (lu z λf zz z=>by induction f using Flow.casesOn <;> exact z)))) λzz zy e=>e.elim) n h
def E3(hA:AOk A d)(hB:gu W B)(hE:EnvOk cx env){ls':Ls}{H':Hp}{j3:It}{fl:Fl}(w:FRun W d cx t b m gF bT j3 fl ls' H'):
  ∀{R:Result->Shared->Prop} {bZ:BgT} {br:List Addr} {j5:Raws} {bz:Shared} {xx:Obj},(∀r s',PF W B ρ F s env cx fl ls' H' r s'->R (.ok r) s')->Grow B ρ bZ br->Rest s bz->jY W bZ br j5 env cx gF->It1 W bZ br j3 xx->RM W bZ br (j5++((I,xx)::F)) bT bz.heap->
   wpAny W.M A (pyNext (.ref I)) (FT W A env t b I (FI W d cx t b B ρ F s env fl ls' H' I) R m) fh bz:=by
 cases w using FRun.casesOn with
 | done h1=>exact λk cg b9 cQ z5 bX=>(nJ h1 hA.handled z5 bX.back λh' R'=>wpAny_execs_nil (k _ _ (iR _ _ _ cg R' (⟨b9.1,b9.2,b9.3⟩) cQ .next)))
 | @turn n _ _ _ ls' _ _ H' _ _ _ _ fl h1 h2 h3 h4 h5=>exact λk cg b9 cQ z5 bX=>(nJ h1 hA.handled z5 bX.back λoN ui tk u xX eI hv=>yp hA hB hE h2 h3 cg b9 cQ xX eI hv λo7 kC rz r my g vN wh N3 nB q=>
   have z:∃k,k<n+1/\FI W d cx t b B ρ F s env fl ls' H' I k my:=⟨_,cI _,o7,kC,rz,_,_,_,oN,g,vN,wh,N3,nB,h5⟩
   q.on h4 z z)
 | ret h1 h2 h3=>exact λk cg b9 cQ z5 bX=>(nJ h1 hA.handled z5 bX.back λoN ui tk u xX eI hv=>yp hA hB hE h2 h3 cg b9 cQ xX eI hv λo7 kC rz r my g vN wh N3 nB q=>
   q.isRet λu z=>k _ _ (iR o7 kC rz g (RM.dropF (F1:= [(I,oN)]) nB.back) vN wh (.ret z)))
def Mt{src:Expr}{pos:Pos}{fl:Fl}{x:AV}(hs:TE W d cx ls H src x aq)(hi:gA aq x=some it)(hset:∀env x,fJ src env x=pure x)(h:FRun W d cx t b n ls aq it fl ls' H'):TS W d cx ls H (.For t src b [] pos) fl ls' H':=by
 intro A B ρ fr F env s hA hB hE hF hR;refine wpAny_For (hs.goS hA hB hE hF hR λRX M9 u rI QK Us HW RQ KH Qb=>vR hi hA RQ Qb λI o i7 Oh bX=>?_) (hset env);refine Fv (FI W d cx t b B ρ F s env fl ls' H' I) (λm bz xq7=>Nb xq7 λbZ br j5 gF bT j3 xx cg b9 cQ z5 bX w=>E3 hA hB hE w ?_ cg b9 cQ z5 bX) n (ye RX M9 fr ls aq it o QK (⟨KH.1,KH.2,KH.3⟩) HW Oh bX.front h);exact λr s' z=>z
end
end
section
mutual
variable{o:Obj}
variable{B:BgT}{F rs:Raws}{h h':Heap}
def St.turn2{I J:Addr}{o' p p':Obj}(S:St B ((I,o)::(J,p)::F) rs h)(k:∀b x,b≠I->b≠J->h.get? b=some x->h'.get? b=some x)(e:h'.get? I=some o')(e':h'.get? J=some p'):St B ((I,o')::(J,p')::F) rs h':=by
 have hI:=S.frm (I,o) (.head _);have hJ:=S.frm (J,p) (.tail _ (.head _));have nd:=bR.mp S.nodF;have nd2:=bR.mp nd.2;refine⟨λb x q=>k b x (λz=>by rw[z,hI.2]at q;cases q) (λz=>by rw[z,hJ.2]at q;cases q) (S.keep b x q),λq hq=>?_,λq hq=>?_,S.nod,S.nodF⟩
 ·rcases aQ.mp hq with rfl | hq
  ·exact⟨e,hI.2⟩
  ·rcases aQ.mp hq with rfl | hq
   ·exact⟨e',hJ.2⟩
   ·have:=S.frm q (.tail _ (.tail _ hq));exact⟨k _ _ (λz=>nd.1 (by erw [bk];exact .tail _ (qG hq z))) (λz=>nd2.1 (qG hq z)) this.1,this.2⟩
 ·have:=S.got q hq;have hn:=this.2.2;simp only[bk,aQ,not_or]at hn;exact eC (k _ _ hn.1 hn.2.1 this.1) this.2.1 (by simpa using hn)
set_option tactic.hygienic true in
theorem St.addB{a:Addr}(S:St B F rs h')(n2:a∉F.map (·.1))(n3:a∉rs.map (·.1))(e:h'.get? a=some o):St (B.put a o) F rs h':=by
 refine⟨λb x q=>?_,λp hp=>⟨(S.frm p hp).1,?_⟩,λp hp=>(eC ((S.got p hp).1) ?_ ((S.got p hp).2.2)),S.nod,S.nodF⟩
 ·unfold BgT.put at q
  split at q
  ·rename_i z;subst z;erw [e];exact q
  ·exact S.keep b x q
 ·erw [(vO λq=>n2 (qG hp q))];exact(S.frm p hp).2
 ·erw [(vO λq=>n3 (qG hp q))];exact(S.got p hp).2.1
end
end
mutual
noncomputable abbrev nN(J:Addr)(i:Int)(old:Value):Obj:={cls:= .type "enumerate",data:= .fields #[.none, .bool false, .ref J,rawInt i, .none,old]}
inductive ItX(W:Wd)(B:BgT)(ρ:List Addr):Bool->It->Addr->Raws->Prop
 | one {it:It} {I:Addr} {o:Obj}:It1 W B ρ it o->ItX W B ρ false it I [(I,o)]
 | enum {x s:List Nat} {t:Tok} {i:Nat} {I J:Addr} {o:Obj} {old:Value}:i<=x.length->s=x.drop i->o.cls= .type (eX (aN x))->o.data= .fields #[.str (aN x) t, .int i 0]->ItX W B ρ true (.enum i s) I [(I,nN J i old),(J,o)]
def ItX.mono{W:Wd}{B:BgT}{ρ:List Addr}(g:Grow B ρ B' ρ'){b:Bool}{it:It}{I:Addr}{io:Raws}(h:ItX W B ρ b it I io):ItX W B' ρ' b it I io:=by
 cases h using ItX.casesOn with
 | one a=>exact .one (a.mono g)
 | enum e a b c=>exact .enum e a b c
abbrev hV:Expr->Bool
 | .Tuple .. =>true
 | _=>false
def si{t:Expr}(h:hV t=true):∃es k p,t= .Tuple es k p:=by
 cases t using bD with | Tuple es k p=>exact⟨es,k,p,rfl⟩ | _=>exact ll h
end
section
mutual
variable{A:Around}{F io:Raws}{s:Shared}{I:Addr}{t:Expr}{r:Option (AV×It)}{q:Bool}{it:It}{x:Str}{i:Nat}{v:AV}{ts:List Expr}{vs:List AV}
variable{W:Wd}{d:Nat}{cx:CX}{ls bA pI ls':Ls}{H H' aq aO dK:Hp}{B:BgT}{ρ:List Addr}
def CY(hh:A.handled=none)(J:Addr)(x:List Nat)(t:Tok):Draws W.prog W.w A J [J] x.length (λi v=> ∃c u,x[i]? =some c/\v= .str ⟨#[c]⟩ u) (λi h=>h.IsStrIter J (eX (aN x)) (aN x) t i):=by
 have e1:(aN x).cps.size=x.length:=by simp[aN]
 have e2:∀i:Nat,(aN x).cps[i]? =x[i]?:=λi=>by simp[aN]
 unfold eX;cases ha:(aN x).cps.all (· <128)
 ·have:=Draws.strWide (prog:=W.prog) (w:=W.w) (A:=A) hh J (aN x) t;rw[e1]at this;simp only[e2]at this;simpa using this
 ·have:=Draws.strAscii (prog:=W.prog) (w:=W.w) (A:=A) hh J (aN x) t;rw[e1]at this;simp only[e2]at this;simpa using this
abbrev NX(W:Wd)(B:BgT)(ρ:List Addr)(F:Raws)(H:Hp)(I:Addr)(A:Around)(t:Expr)(q:Bool)(R:Option Value->Shared->Prop)(s:Shared)(r:Option (AV×It)):Prop:=
 bb (motive:=λzz=>Prop) r (∀h',RM W B ρ F H h'->R none {s with heap:=h'}) λp=> ∃K:Value->Shared->Prop,(∀u bz,wpAny W.M A (hW t (.ref I) u) (λzz dQ=>K u dQ) fh bz->R (some u) bz)/\
  ∀B' io' h' tk u,Grow B ρ B' ρ->ItX W B' ρ q p.2 I io'->RM W B' ρ (io'++F) H h'->VR W B' ρ p.1 u->K u {s with heap:=h',toks:=tk}
def NX.nk{R:Option Value->Shared->Prop}(k:NX W B ρ F H I A t false R s r):NK W B ρ F H I R s r:=by
 cases r using bb with
 | none=>exact k
 | some p=>exact aL k λK kn k1=>λo' h' tk u i' R' hv=>kn _ _ (Eh i' R'.at (k1 B [(I,o')] h' tk u (.refl B ρ) (.one i') R' hv))
set_option tactic.hygienic true in
theorem Bi(h:it.next H=some r){R:Option Value->Shared->Prop}(hh:A.handled=none)(hq:q=true->hV t=true)(hi:ItX W B ρ q it I io)(hR:RM W B ρ (io++F) H s.heap)
  (k:NX W B ρ F H I A t q R s r):wpAny W.M A (pyNext (.ref I)) R fh s:=by
 cases hi using ItX.casesOn with
 | one hi=>exact nJ h hh hi hR k.nk
 | enum hle hs hc hd=>
  rename_i x sg tk i I J o old
  refine aL (id hR) λrs S C=>?_;have hne:I≠J:=by
   have nd:=S.nodF
   exact λe=>(bR.mp nd).1 (e ▸.head _)
  have he:IsEnum s.heap I J i old:=(S.frm _ (.head _)).1;have hst:s.heap.IsStrIter J (eX (aN x)) (aN x) tk i:=(eF o ((S.frm _ (.tail _ (.head _))).1) hc hd);have D:=CY (W:=W) (A:=A.in1) hh J x tk
  cases sg using au with
  | nil=>
   have k0:=Gj (G:=NX W B ρ F H I A t true R s) h k;have hl:=nO hs;have hlen:x.length<=i:=fm.mp hl;obtain rfl:i=x.length:=bI hle hlen;refine wpAny_pyNext_enum_endD D he hst λh' z=>k0 h' ?_;have S1:St B ((J,o)::((I,nN J (x.length:Int) old)::F)) rs s.heap:=S.perm (List.Perm.swap ..);exact RM.shed (I:=I) (o:=nN J (x.length:Int) old) (h:=h') (bH rs (S1.shed λb y hb e=>z b y hb e) C) λ_ _ _ e=>e
  | cons c sg=>
   refine aL (Gj (G:=NX W B ρ F H I A t true R s) h k) λK kn k1=>?_;obtain⟨h1,h2⟩:=kZ hs;have hlt:i<x.length:=(aT.mp h1).1;refine wpAny_pyNext_enum_itemD D he hst hlt hne (by simpa using hne) λy h' tk' hy hE xq1 hT hsz hk=>dq xq1 λo' g1 g2 g3=>kn _ _ ?_;refine gy hy λc' u hc' xq2=>?_;subst xq2;rw[h1]at hc';(replace hc':=ae hc';subst hc');refine t9 (si (hq rfl)) λelts kk tp et=>?_
   erw [et]
   refine wpAny_letOwnedTupleGo_enum hE λh'' hE' hs'=>?_;have hIT:s.heap.objs.size≠I:=λe=>by have:=Heap.lt_size he;rw[<- e]at this;exact jQ _ this
   have hJT:J≠I:=λe=>hne e.symm;have hT':h''.get? s.heap.objs.size=some (y8 #[.int i tk', .str ⟨#[c]⟩ u] 0):=(hs'.2 _ hIT).trans hT;have hJ':h''.get? J=some o':=(hs'.2 _ hJT).trans g1;have S':=S.turn2 (h':=h'') (λb y hb1 hb2 e=>(hs'.2 b hb1).trans (hk b y hb1 hb2 e)) hE' hJ';have fr:=S.free (bP (aw s.heap.objs.size));have g:Grow B ρ (B.put s.heap.objs.size (y8 #[.int i tk', .str ⟨#[c]⟩ u] 0)) ρ:= .ofB ρ (.put fr.1);refine k1 _ [(I,nN J ((i+1:Nat):Int) (.str ⟨#[c]⟩ u)),(J,o')] h'' (tk'+1) _ g (.enum hlt h2 g2 g3) (bH rs ?_ (C.mono g)) ?_
   ·exact S'.addB (by simpa using fr.2.1) fr.2.2 hT'
   ·exact .U kI ⟨rfl,0,rfl⟩ (.cons .int (.cons .str .nil))
set_option tactic.hygienic true in
theorem Bj{Q:Value->Shared->Prop}(hi:ItX W B ρ q it I io)(hR:RM W B ρ (io++F) H s.heap)(h:Q (.ref I) s):wpAny W.M A (pyIter (.ref I)) Q fh s:=by
 cases hi using ItX.casesOn with
 | one hi=>
  have ho:=hR.at
  cases hi using It1.casesOn with
  | str _ hc hd=>
   rename_i x t i _ _ _
   have hit:s.heap.IsStrIter _ (eX (aN x)) (aN x) t i:=(eF _ ho hc hd);unfold eX at hit
   split at hit
   ·exact wpAny_pyIter_striter_ascii hit h
   ·exact wpAny_pyIter_striter_wide hit h
  | U _ _ _ _ hc hd=>exact wpAny_pyIter_tupleiter (eF _ ho hc hd) h
  | a _ _ _ _ hc hd=>exact wpAny_pyIter_listiter (eF _ ho hc hd) h
  | rng=>exact wpAny_pyIter_rangeiter ho h
  | cell _ hc hd=>exact wpAny_pyIter_listiter (eF _ ho hc hd) h
 | enum _ _ _ _=>
  have ho:=hR.frm _ (.head _);exact wpAny_pyIter_enum ho h
def o9.store(ok:CXOk W cx){F1:Raws}{env:Env}{o:Obj}{E:Value->Shared->Prop}{av:AV}{v:Value}{Q:Unit->Shared->Prop}
  (hE:EnvOk cx env)(sub:∀p∈F1,p∈F)(hf:o9 W B ρ ((env.locals,o)::F1) env cx ls)(hR:RM W B ρ ((env.locals,o)::F) H s.heap)(hi:cx.slots.lookup x=some i)(hk:cx.scope.names.lookup x=some .local)(hv:VR W B ρ av v)
  (h:∀h' tk o',o9 W B ρ ((env.locals,o')::F1) env cx (ls.set i (some av))->RM W B ρ ((env.locals,o')::F) H h'->Q () {s with heap:=h',toks:=tk}):wpAny W.M A (storeName env x v) Q E s:=by
 refine dX hf λxx m hL N lo=>?_;refine aL hR λrs S C=>?_;have hkind:env.scope.kind= .function:=by erw [hE.scope];exact hE.kind
 have hk':env.kindOf x=some .local:=by unfold Env.kindOf;erw [hE.scope];exact hk
 have up:∀p∈(env.locals,o)::F1,p∈(env.locals,o)::F:=λp hp=>by
  rcases aQ.mp hp with rfl | hp
  ·exact .head _
  ·exact .tail _ (sub p hp)
 obtain rfl:=S.uniq (up _ hL) (.head _);have nsL:s.heap.Ns env.locals m:=S.ns (up _ hL) N;refine dX N λes ep e1 e2 e3=>?_;refine wpAny_storeName_local hk' nsL (λh' hn' hs'=>?_) (by erw [hkind];rfl);refine gS hn' λo' es' ep' g1 g2 g3 g4=>?_;have S':=S.updF (F1:= []) hs' g1;refine h h' (s.toks+1) o' (i5 o' _ (.head _) ((i5 es' ep' g2 g3 g4)) (λy j av' hj e=>?_)) ⟨rs,S',C⟩;rcases vL e with⟨q,q2⟩ | ⟨q,e⟩
 ·obtain rfl:y=x:=ok.inj _ _ _ (q ▸hj) hi;exact bH v (.inl ⟨hk',if_pos rfl⟩) (q2 ▸hv)
 ·refine aL (lo y j av' hj e) λu l g=>?_;have hy:y≠x:=λz=>q (ae (hj.symm.trans (z ▸hi)));exact bH u (l.other (λe=>(if_neg hy).trans e) λc oc zz hm hd=> .tail _ ((aQ.mp hm).resolve_left λe=>by
   rw[(aH e).2,e1]at hd;exact nomatch hd)) g
abbrev I6(W:Wd)(cx:CX)(ls:Ls)(H:Hp)(t:Expr)(v:AV)(ls':Ls):Prop:=
 ∀(d:Nat) (A:Around) (B:BgT) (ρ:List Addr) (F1 F:Raws) (env:Env) (o:Obj) (s:Shared) (u:Value) (Q:Unit->Shared->Prop),AOk A d->EnvOk cx env->(∀p∈F1,p∈F)->o9 W B ρ ((env.locals,o)::F1) env cx ls->RM W B ρ ((env.locals,o)::F) H s.heap->VR W B ρ v u->
  (∀h' tk o',o9 W B ρ ((env.locals,o')::F1) env cx ls'->RM W B ρ ((env.locals,o')::F) H h'->Q () {s with heap:=h',toks:=tk})->wpAny W.M A (assign t env u) Q fh s
def yO(ok:CXOk W cx){pos:Pos}{ls':Ls}(hi:cx.slots.lookup x=some i)(hk:cx.scope.names.lookup x=some .local)(h:jg ls i v=some ls'):I6 W cx ls H (.Name x pos) v ls':=by
 intro d A B ρ F1 F env o s u Q hA hE sb hf hR hv k;rw[jq h]at k;exact wpAny_assign_Name (hf.store ok hE sb hR hi hk hv k)
abbrev F9(W:Wd)(cx:CX)(ls:Ls)(H:Hp)(ts:List Expr)(vs:List AV)(ls':Ls):Prop:=
 ∀(d:Nat) (A:Around) (B:BgT) (ρ:List Addr) (F1 F:Raws) (env:Env) (o:Obj) (s:Shared) (us:List Value) (Q:Unit->Shared->Prop),AOk A d->EnvOk cx env->(∀p∈F1,p∈F)->o9 W B ρ ((env.locals,o)::F1) env cx ls->RM W B ρ ((env.locals,o)::F) H s.heap->VRs W B ρ vs us->
  (∀h' tk o',o9 W B ρ ((env.locals,o')::F1) env cx ls'->RM W B ρ ((env.locals,o')::F) H h'->Q () {s with heap:=h',toks:=tk})->wpAny W.M A (gD ((jA ts env).map (·.2)) us) Q fh s
def F8:F9 W cx ls H [] [] ls:=by
 intro d A B ρ F1 F env o s us Q hA hE sb hf hR hv k;cases hv
 exact bJ (k s.heap s.toks o hf hR)
def C7{bA ls':Ls}(ht:cu t=true)(h:I6 W cx ls H t v bA)(h':F9 W cx bA H ts vs ls'):F9 W cx ls H (t::ts) (v::vs) ls':=by
 intro d A B ρ F1 F env o s us Q hA hE sb hf hR hv k;cases hv with
 | cons q qs=>
  rw[iO ht];show wpAny W.M A (gD (assign t env::(jA ts env).map (·.2)) (_::_)) _ _ _;rw[gD];exact aF (bW (h d A B ρ F1 F env o s _ _ hA hE sb hf hR q λi7 tk Qg cQ bX=>h' d A B ρ F1 F env Qg {s with heap:=i7,toks:=tk} _ Q hA hE sb cQ bX qs k))
def I5{kk:Nat}{pos:Pos}{x:AV}{ls':Ls}(hx:(∃ws,x= .U ws/\ws=vs)\/∃k,x= .ref k/\aD H k=some vs)(ht:ts.all cu=true)(hl:ts.length=vs.length)(h:F9 W cx ls H ts vs ls'):I6 W cx ls H (.Tuple ts kk pos) x ls':=by
 intro d A B ρ F1 F env o s u Q hA hE sb hf hR hv k
 erw [arm_assign_Tuple]
 refine aF (d9 ?_);unfold unpack;have hn:=nz ht env
 erw [hn.1,hn.2,hl]
 refine aF (bW (qE hx hA hR hv λus h' tk R hus=>?_));exact h d A B ρ F1 F env o {s with heap:=h',toks:=tk} us Q hA hE sb hf R hus k
end
end
mutual
def n9 [BEq α](x:α):∀(l r:List (α×β)),(l++r).lookup x=(match l.lookup x with | some v=>some v | none=>r.lookup x)
 | [],r=>rfl
 | (k,v)::l,r=>by
  simp only[jk,f9];cases x==k
  ·exact n9 x l r
  ·rfl
def n8(x:Str)(p:Str->Bool):∀l:List (Str×β),(l.filter fun(y,zz)=>p y).lookup x=if p x=true then l.lookup x else none
 | []=>by simp
 | (k,v)::l=>by
  have ih:=n8 x p l;simp only[List.filter_cons,f9];by_cases e:x=k
  ·subst e;cases q:p x with
   | true=>simp[q,f9]
   | false=>simp only[fF,if_false];erw [ih,q];simp
  ·have e':(x==k)=false:=by simpa using e
   cases q:p k with
   | true=>simp only[if_true,f9,e'];exact ih
   | false=>simp only[fF,if_false,e'];exact ih
def oO{x:Str}{i:Nat}:∀{ns:List Str} {a:Nat},(ns.zip (iq a ns.length)).lookup x=some i->a<=i/\i<a+ns.length/\ns[i-a]? =some x
 | [],a,h=>by simp at h
 | n::ns,a,h=>by
  simp only[aI,List.range'_succ,List.zip_cons_cons,f9]at h;cases e:x==n with
  | true=>rw[e]at h;(replace h:=ae h;subst h);refine eC (aw _) (by simp) ?_;erw [mR];simp;exact(eq_of_beq e).symm
  | false=>
   rw[e]at h;refine kE (oO h) λh1 h2 h3=>?_;refine eC (by exact(bE ai ay [(bf,ay)] aR h1)) (by simp only[aI];exact(gj bf (aJ ay l9) [(bf,aJ cN bF)] aR h2)) ?_
   erw [(show i-a=(i-(a+1))+1 by exact(bI (gU ai cN [(aJ ai bF,cP),(cP,aJ ay l9)] aR (pJ (dU (bE ai ay [(bf,ay)] aR h1))) (tg _ _)) (gU bf ay [(aJ ai l9,cP),(cP,aJ ay bF)] aR (pJ (dU h1)) (tg _ _))))]
   simpa using h3
def sP{cx:CX}{env:Env}(h:env.scope=cx.scope)(sc:Scope):relabel sc env=qW cx.scope sc:=by
 unfold relabel qW Env.kindOf
 erw [h];rfl
def jz(out:Scope)(x:Str):∀l:List (Str×NameKind),(l.map fun(n,k)=>if(k== .free && out.kind== .function && out.names.lookup n==some .cell)=true then(n,NameKind.cell)else(n,k)).lookup x=
  (l.lookup x).map λk=>if(k== .free && out.kind== .function && out.names.lookup x==some .cell)=true then .cell else k
 | []=>rfl
 | (n,k)::l=>by
  have ih:=jz out x l;have e1:(if(k== .free && out.kind== .function && out.names.lookup n==some .cell)=true then(n,NameKind.cell)else(n,k))=(n,if(k== .free && out.kind== .function && out.names.lookup n==some .cell)=true then .cell else k):=by split <;> rfl
  simp only[bk]
  erw [e1]
  simp only[f9];cases e:x==n with
  | false=>exact ih
  | true=>obtain rfl:=eq_of_beq e;rfl
abbrev nw(env:Env):List (Str×NameKind)->List (Str×Addr)->List (Str×Addr)
 | [],acc=>acc
 | (n,k)::r,acc=>if k== .free then nw env r ((n,(env.cells.lookup n).getD 0)::acc)else nw env r acc
def um{env:Env}{sc:Scope}(h:∀n,(n,NameKind.free)∈sc.names->∃c,env.cells.lookup n=some c):closureFor sc env=pure (nw env sc.names []):=by
 unfold closureFor;have main:∀(l:List (Str×NameKind)) (acc:List (Str×Addr)),(∀n,(n,NameKind.free)∈l->∃c,env.cells.lookup n=some c)->
   (forIn l acc λx r=>(do
    let (name,kind):=x
    let cs:=r
    if(kind== .free)=true then do
     let c <- cellOf env name
     let cs:=(name,c)::cs
     pure PUnit.unit
     pure (ForInStep.yield cs)
    else do
     pure PUnit.unit
     pure (ForInStep.yield cs):Sem _))=pure (nw env l acc):=by
  intro l
  induction l with
  | nil=>intro acc zz;rfl
  | cons p l ih=>
   obtain⟨n,k⟩:=p
   intro acc hc
   erw [List.forIn_cons]
   unfold nw
   cases hk:k==NameKind.free with
   | true=>
    have hk':k= .free:=by simpa using hk
    subst hk'
    obtain⟨c,e⟩:=hc n (.head _)
    have e2:cellOf env n=pure c:=by unfold cellOf;erw [e];rfl
    erw [e]
    simp only[if_true,e2,pure_bind,Option.getD_some]
    exact ih _ λm hm=>hc m (.tail _ hm)
   | false=>
    simp only[hk,fF,if_false,pure_bind]
    exact ih _ λm hm=>hc m (.tail _ hm)
 have:=main sc.names [] h;simp only[this,pure_bind]
def jJ{env:Env}{x:Str}{c:Addr}(hc:env.cells.lookup x=some c):∀(l:List (Str×NameKind)) (acc:List (Str×Addr)),((x,NameKind.free)∈l\/acc.lookup x=some c)->(nw env l acc).lookup x=some c
 | [],acc,h=>by rcases h with h | h;cases h;exact h
 | (n,k)::r,acc,h=>by
  unfold nw;cases hk:k==NameKind.free with
  | true=>
   simp only[if_true];refine jJ hc r _ ?_;by_cases e:x=n
   ·subst e;exact .inr (by simp[hc])
   ·rcases h with h | h
    ·rcases aQ.mp h with q | q
     ·cases q;exact absurd rfl e
     ·exact .inl q
    ·refine .inr ?_;have e':(x==n)=false:=by simpa using e
     simp only[f9,e'];exact h
  | false=>
   simp only[fF,if_false];refine jJ hc r _ ?_;rcases h with h | h
   ·rcases aQ.mp h with q | q
    ·cases q;cases hk
    ·exact .inl q
   ·exact .inr h
structure ScF(cx:CX)(sc:Scope)(pt:PT):Prop where
 kind:sc.kind= .function
 names:∀x∈sc.names,x.2= .local->sc.names.lookup x.1=some .local
 nocell:∀x∈sc.names,x.2≠ .cell
 frees:∀n,(n,NameKind.free)∈sc.names->cx.scope.names.lookup n=some .cell
 new:∀i∈pt.slots,cx.nxt<=i
 all:∀i,cx.nxt<=i->i<cx.nxt+(pF sc).length->i∈pt.slots
def qx{cx:CX}{sc:Scope}{pt:PT}(h:G0 cx sc pt=true):ScF cx sc pt:=by
 unfold G0 at h;simp only[cv,aS]at h;obtain⟨xq1,h6⟩:=h;obtain⟨xq2,h5⟩:=xq1;obtain⟨xq3,h4⟩:=xq2;obtain⟨xq4,h3⟩:=xq3;obtain⟨h1,h2⟩:=xq4;refine⟨by simpa using h1,fun⟨n,k⟩ hx hk=>?_,fun⟨n,k⟩ hx hk=>?_,λn hx=>?_,λi hi=>ab (h5 i hi),λi a b=>?_⟩
 ·have:=h2 _ hx
  try dsimp only at this hk
  subst hk;simpa using this
 ·have:=h3 _ hx
  try dsimp only at this hk
  subst hk;simp at this
 ·have:=h4 _ hx;simpa using this
 ·have:=h6 i (List.mem_range'_1.mpr ⟨a,b⟩);simpa using this
def eT [BEq α] [LawfulBEq α]{x:α}{v:β}:∀{l:List (α×β)},l.lookup x=some v->(x,v)∈l
 | [],h=>by simp at h
 | (k,w)::l,h=>by
  simp only[f9]at h;cases e:x==k with
  | true=>rw[e]at h;(replace h:=ae h;subst h);erw [eq_of_beq e];exact .head _
  | false=>rw[e]at h;exact .tail _ (eT h)
end
section
mutual
variable{env:Env}
variable{W:Wd}{cx:CX}{sc:Scope}{pt:PT}
set_option tactic.hygienic true in
theorem jv(cx:CX)(sc:Scope){x:Str}{i:Nat}(h:(cx.inner sc).slots.lookup x=some i):
  (cx.nxt<=i/\i<cx.nxt+(pF sc).length/\(pF sc)[i-cx.nxt]? =some x)\/(cx.slots.lookup x=some i/\sc.names.lookup x=some .free):=by
 unfold CX.inner at h
 try dsimp only at h
 rw[n9]at h
 split at h
 ·rename_i j e
  (replace h:=ae h;subst h)
  exact .inl (oO e)
 ·have e:=n8 (β:=Nat) x (λy=>sc.names.lookup y==some .free) cx.slots;have e2:(cx.slots.filter fun(y,_)=>sc.names.lookup y==some .free).lookup x=some i:=h;rw[e]at e2
  split at e2
  ·rename_i q
   exact .inr ⟨e2,by simpa using q⟩
  ·cases e2
def pO(ok:CXOk W cx)(hs:ScF cx sc pt):CXOk W (cx.inner sc):=by
 refine⟨ok.glob,ok.nm,λx y i hx hy=>?_,λx i hx=>?_⟩
 ·rcases jv cx sc hx with⟨a,b,c⟩ | ⟨a,b⟩
  ·rcases jv cx sc hy with⟨a',b',c'⟩ | ⟨a',b'⟩
   ·rw[c]at c';exact ae c'
   ·have:=ok.lt _ _ a';exact(CL [(bf,ay),(ay,ai)] aR this a).elim
  ·rcases jv cx sc hy with⟨a',b',c'⟩ | ⟨a',b'⟩
   ·have:=ok.lt _ _ a;exact(CL [(bf,ay),(ay,ai)] aR this a').elim
   ·exact ok.inj _ _ _ a a'
 ·show i<cx.nxt+(pF sc).length;rcases jv cx sc hx with⟨a,b,c⟩ | ⟨a,b⟩
  ·exact b
  ·have:=ok.lt _ _ a;exact(gj bf (aJ ay bF) [(bf,ay)] aR this)
def pP(cx:CX)(sc:Scope)(x:Str):(cx.inner sc).scope.names.lookup x=(sc.names.lookup x).map λk=>if(k== .free && cx.scope.kind== .function && cx.scope.names.lookup x==some .cell)=true then .cell else k:=
 jz cx.scope x sc.names
noncomputable abbrev C3(sc:Scope)(C:Addr)(env:Env):Env:=compEnvC sc (nw env sc.names []) C env
set_option tactic.hygienic true in
theorem CD(hs:ScF cx sc pt)(hE:EnvOk cx env)(C:Addr):EnvOk (cx.inner sc) (C3 sc C env):=by
 refine⟨sP hE.scope sc,hE.globals,hE.builtins,hs.kind,λx hx=>?_⟩;rw[pP]at hx;refine aL (bK.mp hx) λk hk e=>?_;have hm:=eT hk
 split at e
 ·rename_i q
  simp only[cv,beq_iff_eq]at q;obtain⟨c,hc⟩:=hE.cells x q.2;exact⟨c,jJ hc _ _ (.inl (q.1.1 ▸hm))⟩
 ·exact absurd e (hs.nocell _ hm)
def CA(hs:ScF cx sc pt){B:BgT}{ρ:List Addr}{F:Raws}{ls:Ls}{C:Addr}{o:Obj}(hE:EnvOk cx env)(hF:o9 W B ρ F env cx ls)(hf:eV ls pt=true)(N:vn o λzz=>none):o9 W B ρ ((C,o)::F) (C3 sc C env) (cx.inner sc) ls:=by
 refine dX hF λxx m hL RW lo=>?_;refine i5 o _ (.head _) N (λy i av hy hv=>?_);rcases jv cx sc hy with⟨a,b,c⟩ | ⟨a,b⟩
 ·unfold eV at hf;have:=aS.mp hf i (hs.all i a b);rw[hv]at this;cases this
 ·have hm:=eT b;have hk:=hs.frees y hm;refine aL (lo y i av a hv) λu l g=>?_;refine bH u ?_ g;rcases l with⟨k,_⟩ | ⟨_,c,oc,hc,hmem,hd⟩
  ·unfold Env.kindOf at k;rw[hE.scope,hk]at k;cases k
  ·refine .inr ⟨.inl ?_,c,oc,jJ hc _ _ (.inl hm), .tail _ hmem,hd⟩;show(relabel sc env).names.lookup y=_;rw[sP hE.scope];have e:=jz cx.scope y sc.names;refine e.trans ?_
   erw [b,hk]
   simp[hE.kind]
end
end
mutual
class inductive CRun(W:Wd)(d:Nat)(cx:CX)(t:Expr)(c:Option Expr)(elt:Expr)(k:Nat):Nat->Ls->Hp->It->Hp->Prop
 | done {n:Nat} {ls:Ls} {H:Hp} {it:It}:it.next H=some none->CRun W d cx t c elt k n ls H it H
 | skip {n:Nat} {ls bA:Ls} {H aq H':Hp} {it it':It} {v:AV} {e:Expr}:it.next H=some (some (v,it'))->I6 W cx ls H t v bA->c=some e->TB W d cx bA H e false aq->CRun W d cx t c elt k n bA aq it' H'->CRun W d cx t c elt k (n+1) ls H it H'
 | take {n:Nat} {ls bA:Ls} {H aq aO dK H':Hp} {it it':It} {v x r:AV}:it.next H=some (some (v,it'))->I6 W cx ls H t v bA->((c=none/\aq=H)\/∃e,c=some e/\TB W d cx bA H e true aq)->TE W d cx bA aq elt x aO->kM (.ref k) 0 [x] aO=some (r,dK)->CRun W d cx t c elt k n bA dK it' H'->CRun W d cx t c elt k (n+1) ls H it H'
abbrev MJ(W:Wd)(d:Nat)(cx:CX)(ls:Ls)(H:Hp)(e:Expr)(q:Bool)(it:It)(H':Hp):Prop:=
 ∀(A:Around) (B:BgT) (ρ:List Addr) (F:Raws) (env:Env) (s:Shared) (Q:Value->Shared->Prop),AOk A d->gu W B->EnvOk cx env->o9 W B ρ F env cx ls->RM W B ρ F H s.heap->
  (∀B' ρ' I io s',Grow B ρ B' ρ'->gu W B'->RM W B' ρ' (io++F) H' s'.heap->Rest s s'->ItX W B' ρ' q it I io->Q (.ref I) s')->
  wpAny W.M A (eval e env) (λu bz=>wpAny W.M A (pyIter u) Q fh bz) fh s
end
section
mutual
variable{it:It}{n:Nat}
variable{W:Wd}{d:Nat}{cx:CX}{ls bA pI ls':Ls}{H H' aq aO dK:Hp}{sc:Scope}{pt:PT}
def C8{e:Expr}{x:AV}(h:TE W d cx ls H e x H')(hi:gA H' x=some it):MJ W d cx ls H e false it H':=by
 intro A B ρ F env s Q hA hB hE hF hR k;refine h.go hA hB hE hF hR λbZ br u bz g b f R r v=>vR hi hA R v λI o h' hi' R'=>?_;exact k bZ br I [(I,o)] _ g b R' ⟨r.1,r.2,r.3⟩ (.one hi')
set_option tactic.hygienic true in
theorem Gb(W1:W.Top){f:Str}{p pos:Pos}{x:Expr}{t:List Nat}(hx:cu x=true)(ho:Ei f=false)(hs:cx.scope.names.lookup f=some .globalImplicit)(hg:Gl W f (.type "enumerate"))(h:TE W d cx ls H x (.str t) H'):MJ W d cx ls H (.Call (.Name f p) [x] [] pos) true (.enum 0 t) H':=by
 intro A B ρ F env s Q hA hB hE hF hR k;refine wpAny_Call_NameR (kx W1 hE (kL ho).1 hg hs (hR.base hB) (fA (by erw [oZ,hx];rfl) ?_));rw[dR hx];refine spliced_cons (h.go hA hB hE hF hR λbZ br u bz cg dh cQ bX b9 dY=>spliced_nil ⟨oQ _,?_⟩);cases dY
 rename_i tk
 refine call_enumerate_str λh' he xq5 hz hk=>dq xq5 λo g1 g2 g3=>?_;have hi:ItX W bZ br true (.enum 0 t) (bz.heap.objs.size+1) [(bz.heap.objs.size+1,nN bz.heap.objs.size ((0:Nat):Int) .none),(bz.heap.objs.size,o)]:= .enum (aX _) rfl g2 g3;refine aL bX λrs S C=>?_;have n1:bz.heap.get? bz.heap.objs.size=none:=bP (aw _);have n2:bz.heap.get? (bz.heap.objs.size+1)=none:=bP (ow _);have S1:St bZ ((bz.heap.objs.size,o)::F) rs h':=S.allocF n1 hk g1;have f2:=S.free n2;have S2:St bZ ((bz.heap.objs.size+1,nN bz.heap.objs.size ((0:Nat):Int) .none)::(bz.heap.objs.size,o)::F) rs h':=by
  refine⟨S1.keep,λp hp=>?_,λp hp=>(eC ((S1.got p hp).1) ((S1.got p hp).2.1) ?_),S1.nod,bR.mpr ⟨?_,S1.nodF⟩⟩
  ·rcases aQ.mp hp with rfl | hp
   ·exact⟨he,f2.1⟩
   ·exact S1.frm p hp
  ·erw [bk];rewrite [aQ,not_or]
   exact⟨λq=>f2.2.2 (qG hp q),(S1.got p hp).2.2⟩
  ·erw [bk];rewrite [aQ,not_or]
   exact⟨Nat.succ_ne_self _,f2.2.1⟩
 exact Bj (q:=true) (io:= [(_,_),(_,_)]) (F:=F) (s:={bz with heap:=h'}) hi (bH rs S2 C) (k bZ br _ _ _ cg dh (bH rs S2 C) ⟨b9.1,b9.2,b9.3⟩ hi)
structure CK where
 W:Wd
 d:Nat
 cx:CX
 t:Expr
 c:Option Expr
 elt:Expr
 l:Nat
 H':Hp
 q:Bool
 B:BgT
 ρ:List Addr
 I:Addr
 F:Raws
 s:Shared
 env:Env
 A:Around
structure CF(K:CK)(B':BgT)(ρ':List Addr)(io':Raws)(o':Obj)(gF:Ls)(bT:Hp)(j3:It)(s':Shared):Prop where
 g:Grow K.B K.ρ B' ρ'
 r:Rest K.s s'
 i:ItX K.W B' ρ' K.q j3 K.I io'
 R:RM K.W B' ρ' ((K.env.locals,o')::(io'++K.F)) bT s'.heap
 f:o9 K.W B' ρ' ((K.env.locals,o')::K.F) K.env K.cx gF
noncomputable abbrev CK.run(K:CK):Nat->Ls->Hp->It->Prop:=λm ls H it=>CRun K.W K.d K.cx K.t K.c K.elt K.l m ls H it K.H'
inductive CIt(K:CK)(m:Nat)(s':Shared):Prop
 | mk {B':BgT} {ρ':List Addr} {io':Raws} {o':Obj} {gF:Ls} {bT:Hp} {j3:It} (f:CF K B' ρ' io' o' gF bT j3 s') (w:K.run m gF bT j3)
inductive CB(K:CK)(m:Nat)(bA:Ls)(bT:Hp)(it':It):Prop
 | skip {e:Expr} {aq:Hp} (hc:K.c=some e) (h:TB K.W K.d K.cx bA bT e false aq) (w:K.run m bA aq it')
 | all {aO dK:Hp} {x r:AV} (hc:K.c=none) (h:TE K.W K.d K.cx bA bT K.elt x aO) (a:kM (.ref K.l) 0 [x] aO=some (r,dK)) (w:K.run m bA dK it')
 | take {e:Expr} {aq aO dK:Hp} {x r:AV} (hc:K.c=some e) (h:TB K.W K.d K.cx bA bT e true aq) (h2:TE K.W K.d K.cx bA aq K.elt x aO) (a:kM (.ref K.l) 0 [x] aO=some (r,dK)) (w:K.run m bA dK it')
inductive CT(K:CK)(m:Nat)(s':Shared):Prop
 | mk {B':BgT} {ρ':List Addr} {io':Raws} {o':Obj} {bA:Ls} {bT:Hp} {it':It} {m':Nat} (hm:m=m'+1) (f:CF K B' ρ' io' o' bA bT it' s') (b:CB K m' bA bT it')
abbrev CR(K:CK)(fin:Shared->Prop)(G:Nat->Shared->Prop)(m:Nat)(r:Option Value)(bz:Shared):Prop:=match r with
 | none=>fin bz
 | some v=>wpAny K.W.M K.A (hW K.t (.ref K.I) v) (λzz rI=>wpAny K.W.M K.A (assign K.t K.env v) (λzz dQ=>G m dQ) fh rI) fh bz
def CF.move{K:CK}{B' bZ:BgT}{ρ' br:List Addr}{io':Raws}{o':Obj}{gF:Ls}{bT aq:Hp}{j3:It}{s' bz:Shared}(f:CF K B' ρ' io' o' gF bT j3 s')(g:Grow B' ρ' bZ br)(R:RM K.W bZ br ((K.env.locals,o')::(io'++K.F)) aq bz.heap)(r:Rest s' bz):CF K bZ br io' o' gF aq j3 bz:=
 ⟨f.g.trans g,f.r.trans r,f.i.mono g,R,f.f.mono g⟩
def CRun.on{W:Wd}{d:Nat}{cx:CX}{t:Expr}{c:Option Expr}{elt:Expr}{k:Nat}{ls:Ls}{H H':Hp}{p:Prop}(w:CRun W d cx t c elt k n ls H it H')(kd:it.next H=some none->H=H'->p)
  (ks:∀{n' bA aq it' v e},n=n'+1->it.next H=some (some (v,it'))->I6 W cx ls H t v bA->c=some e->TB W d cx bA H e false aq->CRun W d cx t c elt k n' bA aq it' H'->p)
  (kt:∀{n' bA aq aO dK it' v x r},n=n'+1->it.next H=some (some (v,it'))->I6 W cx ls H t v bA->((c=none/\aq=H)\/∃e,c=some e/\TB W d cx bA H e true aq)->TE W d cx bA aq elt x aO->kM (.ref k) 0 [x] aO=some (r,dK)->CRun W d cx t c elt k n' bA dK it' H'->p):p:=by
 cases w using CRun.casesOn with
 | done h=>exact kd h rfl
 | skip h1 h2 h3 h4 h5=>exact ks rfl h1 h2 h3 h4 h5
 | take h1 h2 h3 h4 h5 h6=>exact kt rfl h1 h2 h3 h4 h5 h6
set_option tactic.hygienic true in
theorem C1{K:CK}{fin:Shared->Prop}(hA:AOk K.A K.d)(hE:EnvOk K.cx K.env)(hq:K.q=true->hV K.t=true)
  (hfin:∀{B' ρ' o' gF s'},Grow K.B K.ρ B' ρ'->Rest K.s s'->RM K.W B' ρ' ((K.env.locals,o')::K.F) K.H' s'.heap->o9 K.W B' ρ' ((K.env.locals,o')::K.F) K.env K.cx gF->fin s'){m:Nat}{s':Shared}(h:CIt K m s'):
  wpAny K.W.M K.A (pyNext (.ref K.I)) (CR K fin (CT K) m) fh s':=by
 cases h using CIt.casesOn with | mk f w=>?_
 rename_i B' ρ' io' o' gF bT j3
 have S:=f.R.perm lU.symm;have go:∀{v:AV} {it':It} {bA:Ls} {m':Nat},j3.next bT=some (some (v,it'))->I6 K.W K.cx gF bT K.t v bA->m=m'+1->CB K m' bA bT it'->wpAny K.W.M K.A (pyNext (.ref K.I)) (CR K fin (CT K) m) fh s':=fun{v it' bA m'} h1 h2 hm b=>
  Bi (t:=K.t) h1 hA.handled hq f.i S ⟨λu rI=>wpAny K.W.M K.A (assign K.t K.env u) (λ_ dQ=>CT K m dQ) fh rI,λ_ _ z=>z,λfY N7 HS tk u gB xX eI hv=>
   h2 K.d K.A fY ρ' K.F (N7++K.F) K.env o' {s' with heap:=HS,toks:=tk} u _ hA hE (λp hp=>bB _ hp) (f.f.mono gB) (eI.perm lU) hv λTI R2 Tw wh nB=>
    .mk hm ⟨f.g.trans gB,⟨f.r.1,f.r.2,f.r.3⟩,xX,nB,wh⟩ b⟩;refine w.on (λh1 e=>Bi (t:=K.t) h1 hA.handled hq f.i S λHS jD=>hfin f.g ⟨f.r.1,f.r.2,f.r.3⟩ (e ▸jD) f.f) (λhm h1 h2 h3 h4 h5=>go h1 h2 hm (.skip h3 h4 h5)) λhm h1 h2 h3 h4 h5 h6=>?_;rcases h3 with⟨q,e⟩ | ⟨e,q,h3⟩
 ·exact go h1 h2 hm (.all q (e ▸h4) h5 h6)
 ·exact go h1 h2 hm (.take q h3 h4 h5 h6)
def yC{K:CK}(Cl:K.W.Cl)(hA:AOk K.A K.d)(hE:EnvOk K.cx K.env)(hB:gu K.W K.B){D:Addr}(hD:VR K.W K.B K.ρ (.ref K.l) (.ref D)){B':BgT}{ρ':List Addr}{io':Raws}{o':Obj}{bA:Ls}{bT aO dK:Hp}{it':It}{dQ:Shared}(f:CF K B' ρ' io' o' bA bT it' dQ){x r:AV}{m:Nat}
  (h4:TE K.W K.d K.cx bA bT K.elt x aO)(h5:kM (.ref K.l) 0 [x] aO=some (r,dK))(h6:K.run m bA dK it'){G:Shared->Prop}(k:∀{s},CIt K m s->G s):
  wpAny K.W.M K.A (eval K.elt K.env) (λy my=>wpAny K.W.M K.A (call (.builtin "list.append") [.ref D,y]) (λzz GH=>G GH) fh my) fh dQ:=
 h4.go hA (hB.mono f.g.b) hE (f.f.sub λp hp=>(aQ.mp hp).elim (λe=>e ▸.head _) λhp=> .tail _ (bB _ hp)) f.R λJc AP y my yh L9 zz yQ zD Kj=>
  lu (Bk (W:=K.W) (d:=K.d) Cl h5 K.A Jc AP ((K.env.locals,o')::(io'++K.F)) my [.ref D,y] hA L9 yQ (.cons ((hD.mono f.g).mono yh) (.cons Kj .nil))) λzz GH z=>z.elim λUy z=>z.elim λRY z=>k (.mk ((f.move yh yQ zD).move z.1 z.2.1 z.2.2.1) h6)
def Df{W:Wd}{A:Around}{α:Type}{t:Sem α}{Q Q':α->Shared->Prop}{E:Value->Shared->Prop}{s:Shared}(h:wpAny W.M A t Q fh s)(hq:∀a s,Q a s->Q' a s):wpAny W.M A t Q' E s:=dN h (λa s q=>hq a s q) λzz zy e=>e.elim
def u3(Cl:W.Cl)(ok:CXOk W cx)(hs:ScF cx sc pt){elt t src:Expr}{ifs:List Expr}{c:Option Expr}(hc:(ifs= []/\c=none)\/∃e,ifs= [e]/\c=some e){q:Bool}(hq:q=true->hV t=true){p0 pos:Pos}{use:Option (Value->Sem Unit)}{Q:Value->Shared->Prop}
  (hset:∀env x,fJ src env x=pure x)(hf:eV ls pt=true)(hsrc:MJ W d cx ls H src q it aq)(hr:CRun W d (cx.inner sc) t c elt aq.length n ls (aq++ [.list []]) it H')
  {A:Around}{B:BgT}{ρ:List Addr}{F:Raws}{env:Env}{s:Shared}(hA:AOk A d)(hB:gu W B)(hE:EnvOk cx env)(hF:o9 W B ρ F env cx ls)(hR:RM W B ρ F H s.heap)
  (k:∀B' ρ' D C o m s',Grow B ρ B' ρ'->RM W B' ρ' ((C,o)::F) H' s'.heap->Rest s s'->VR W B' ρ' (.ref aq.length) (.ref D)->vn o m->compPost W.M A fh use Q (.ref D) C (.ok .next) s'):
  wpAny W.M A (comprehension (.ListComp elt [⟨t,src,ifs,0⟩] sc pos) sc env p0 (newList []) false (eval src env) use) Q fh s:=by
 have Jv:∀{α:Type} {t:Sem α} {Q:α->Shared->Prop} {E:Value->Shared->Prop} {s:Shared},wpAny W.M A t Q fh s->wpAny W.M A t Q E s:=λh=>dN h (λzz zy q=>q) λzz zy e=>e.elim;refine wpAny_comprehension_free (g:=⟨t,src,ifs,0⟩) (gs:= []) rfl (hset env) (um λx hx=>hE.cells x (hs.frees x hx)) hs.kind hs.names ?_;refine hsrc A B ρ F env s _ hA hB hE hF hR λbZ br I io bz cg dh bX b9 hi=>?_;refine wpAny_newObj_type (hd:=by size_fits) (wpAny_newFunctionEnv hs.nocell (by intro y hy;simp at hy) (λui hns hsb=>?_) hs.kind)
 try dsimp only at hns hsb |-
 have eI:=bX.newList (vs:= []) (its:= []) .nil;generalize hH:bz.heap.push {cls:= .type "list",dict:=none,data:= .seq ([]:List Value).toArray}=i7 at hns hsb |-
 have PC:RM W bZ (br++ [bz.heap.objs.size]) (io++F) (aq++ [.list []]) i7:=by erw [<- hH];exact eI
 have hn:i7.get? i7.objs.size=none:=bP (aw _);refine gS hns λoN es ep e1 e2 e3 e4=>?_;have RV:vn oN (λzz=>none):=(i5 es ep e2 e3 (λy=>(e4 y).trans rfl));have jD:RM W bZ (br++ [bz.heap.objs.size]) ((i7.objs.size,oN)::(io++F)) (aq++ [.list []]) ui:=by
  refine PC.allocF hn (λb x e=>?_) e1
  have hb:b≠i7.objs.size:=λz=>by rw[z,hn]at e;cases e
  exact(hsb.2 b hb).trans (cG _ e)
 have hl:=bX.len;have hD:VR W bZ (br++ [bz.heap.objs.size]) (.ref aq.length) (.ref bz.heap.objs.size):= .ref (by erw [<- hl];simp);have gg:Grow bZ br bZ (br++ [bz.heap.objs.size]):= .push bZ br _;have Ol:o9 W bZ (br++ [bz.heap.objs.size]) ((i7.objs.size,oN)::F) (C3 sc i7.objs.size env) (cx.inner sc) ls:=CA hs hE ((hF.mono cg).mono gg) hf RV;have hE':=CD hs hE i7.objs.size;have ok':=pO ok hs;show codeAny W.M A (.compStart _ 0 (.ref I) (.ref bz.heap.objs.size) (C3 sc i7.objs.size env)) _ _;have loop:codeAny W.M A (.compLoop (.ListComp elt [⟨t,src,ifs,0⟩] sc pos) 0 (.ref I) (.ref bz.heap.objs.size) (C3 sc i7.objs.size env)) (compPost W.M A fh use Q (.ref bz.heap.objs.size) i7.objs.size) {bz with heap:=ui,toks:=bz.toks+([]:List (Str×Value)).length}:=by
  let K:CK:=⟨W,d,cx.inner sc,t,c,elt,aq.length,H',q,bZ,br++ [bz.heap.objs.size],I,F,s,C3 sc i7.objs.size env,A⟩
  have inv0:CIt K n {bz with heap:=ui,toks:=bz.toks+([]:List (Str×Value)).length}:= .mk (K:=K) ⟨.refl _ _,⟨b9.1,b9.2,b9.3⟩,hi.mono gg,jD,Ol⟩ hr
  have step:∀{m s'},CIt K m s'->wpAny W.M A (pyNext (.ref I)) (CR K (λs'=>compPost W.M A fh use Q (.ref bz.heap.objs.size) i7.objs.size (.ok .next) s') (CT K) m) fh s':=λh=>C1 (K:=K) hA hE' hq (fun{B' ρ' o' gF s'} g r R f=>by
   refine dX f λTz m hm N zz=>?_
   refine aL (id R) λrs S C=>?_
   obtain rfl:=S.uniq hm (.head _)
   exact k B' ρ' _ _ _ m s' ((cg.trans gg).trans g) R r (hD.mono g) N) h
  rcases hc with⟨rfl,rfl⟩ | ⟨e,rfl,rfl⟩
  ·refine kcp_loop (CIt K) (λm s' hI=>Df (step hI) λr Nq z=>?_) n inv0
   cases r using bb with
   | none=>exact z
   | some v=>
    refine Df z λzz rI z=>Df z λzz dQ z=>?_
    cases z using CT.casesOn with | mk hm f b=>?_
    cases b using CB.casesOn with
    | skip hc=>exact nomatch hc
    | all zz h2 a w=>exact Df (yC (K:=K) Cl hA hE' dh hD f h2 a w λz=>⟨_,hm ▸cI _,z⟩) λzz zy z=>Df z λzz zy z=>z
    | take hc=>exact nomatch hc
  ·refine kct_loop (CIt K) (λm s' hI=>Df (step hI) λr Nq z=>?_) n inv0
   cases r using bb with
   | none=>exact z
   | some v=>
    refine Df z λzz rI z=>Df z λzz dQ z=>?_
    cases z using CT.casesOn with | mk hm f b=>?_
    have up:∀{io':Raws} {o':Obj},∀p∈(K.env.locals,o')::F,p∈(K.env.locals,o')::(io'++F):=λp hp=>(aQ.mp hp).elim (λe=>e ▸.head _) λhp=> .tail _ (bB _ hp)
    cases b using CB.casesOn with
    | skip hc h w=>
     (replace hc:=ae hc;subst hc)
     exact Df (h.go hA (dh.mono f.g.b) hE' (f.f.sub up) f.R λJc AP my yh L9 zz yQ zD=>(⟨_,hm ▸cI _, .mk (f.move yh yQ zD) w⟩:∃m',m'<m/\CIt K m' my)) λzz zy z=>z
    | all hc=>exact nomatch hc
    | take hc h h2 a w=>
     (replace hc:=ae hc;subst hc)
     exact Df (h.go hA (dh.mono f.g.b) hE' (f.f.sub up) f.R λJc AP my yh L9 zz yQ zD=>Df (yC (K:=K) Cl hA hE' dh hD (f.move yh yQ zD) h2 a w λz=>⟨_,hm ▸cI _,z⟩) λzz zy z=>Df z λzz zy z=>z) λzz zy z=>z
 exact codeAny_compStart_list loop (Jv (Bj (q:=q) (it:=it) (io:=io) (F:=(i7.objs.size,oN)::F) (s:={bz with heap:=ui,toks:=_}) (hi.mono gg) (jD.perm lU.symm) loop))
end
end
mutual
def EK{c:Prop} [Decidable c]{a b x:α}{p:Prop}(h:(if c then a else b)=x)(k1:c->a=x->p)(k2:¬c->b=x->p):p:=by
 by_cases q:c
 ·exact k1 q ((if_pos q).symm.trans h)
 ·exact k2 q ((if_neg q).symm.trans h)
set_option tactic.hygienic true in
theorem zd{sc:Scope}{env:Env}(h:env.scope=sc)(hk:sc.kind= .function){ts vs:List Expr}{k:Nat}{p:Pos}{r:Option (List Str)}(hr:jn sc ts vs=some r):swappedStores [.Tuple ts k p] (.Tuple vs k' p') env=pure r:=by
 induction env using Env.casesOn
 subst h
 rename_i sc _ _ _ _ _ _ _ _
 induction sc using Scope.casesOn
 subst hk;refine EK hr (λq hr=>?_) λq hr=>?_
 ·erw [<- ae hr];exact if_pos q
 refine(if_neg q).trans (EK hr (λq hr=>?_) λq hr=>?_)
 ·erw [<- ae hr];exact if_pos q
 refine(if_neg q).trans (EK hr (λq hr=>?_) λq hr=>?_)
 ·erw [<- ae hr];exact if_pos q
 refine(if_neg q).trans (EK hr (λq hr=>?_) λq hr=>?_)
 ·erw [<- ae hr];exact if_pos q
 refine(if_neg q).trans (EK hr (λq hr=>?_) λq hr=>?_)
 ·exact dz hr
 ·erw [<- ae hr];exact if_neg q
def sm{cx:CX}{env:Env}(h:env.scope=cx.scope)(hk:cx.scope.kind= .function){ts vs:List Expr}{k:Nat}{p:Pos}{r:Option (List Str)}(hr:jn cx.scope ts vs=some r):swappedStores [.Tuple ts k p] (.Tuple vs k' p') env=pure r:=zd h hk hr
def ub{t e:Expr}{env:Env}(ht:∀ts k p,t= .Tuple ts k p->∀vs k' p',e≠ .Tuple vs k' p')(hl:∀es p,t≠ .List es p):swappedStores [t] e env=pure none:=by
 induction t using bD <;> first
  | rfl
  | exact absurd rfl (hl _ _)
  | (induction e using bD <;> first | rfl | exact absurd rfl (ht _ _ _ rfl _ _ _))
end
section
mutual
variable{t elt src:Expr}{is:List Nat}{ifs:List Expr}{c:Option Expr}{q:Bool}{it:It}{n:Nat}{vs:List AV}
variable{W:Wd}{d:Nat}{cx:CX}{ls bA pI ls':Ls}{H H' aq aO dK:Hp}{sc:Scope}{pt:PT}
def BU(Cl:W.Cl)(ok:CXOk W cx)(hs:ScF cx sc pt)(hc:(ifs= []/\c=none)\/∃e,ifs= [e]/\c=some e)(hq:q=true->hV t=true){pos:Pos}
  (hset:∀env x,fJ src env x=pure x)(hf:eV ls pt=true)(hsrc:MJ W d cx ls H src q it aq)(hr:CRun W d (cx.inner sc) t c elt aq.length n ls (aq++ [.list []]) it H'):TE W d cx ls H (.ListComp elt [⟨t,src,ifs,0⟩] sc pos) (.ref aq.length) H':=by
 intro A B ρ F env s hA hB hE hF hR;refine u3 (Q:=PV W B ρ F s (.ref aq.length) H') Cl ok hs hc hq hset hf hsrc hr hA hB hE hF hR λB' ρ' D C o m s' g R r hv N=>?_;refine aL (id R) λrs S CC=>?_;exact bH m (S.ns (.head _) N) (λh' hsb=>(d0 B' ρ' g (R.shed λb x hb e=>(hsb.2 b hb).trans e) (⟨r.1,r.2,r.3⟩) hv))
def BF(ht:cu t=true)(env:Env):(jA [t] env).map (·.2)= [assign t env]:=by
 rw[iO ht];rfl
def vj{e:Expr}{pos:Pos}{v:AV}(ht:cu t=true)(h:TE W d cx ls H e v aq)(h':TA W d cx ls aq t v ls' H')(hs:∀env,EnvOk cx env->swapsWith e (some t) pos.line env=pure false)(hw:∀env,EnvOk cx env->swappedStores [t] e env=pure none):TS W d cx ls H (.Assign [t] e pos) .next ls' H':=by
 intro A B ρ fr F env s hA hB hE hF hR;refine wpAny_Assign_stores (h.goS hA hB hE hF hR λbZ br u bz cg dh cQ bX b9 dY=>?_) (hs env hE) (hw env hE);rw[BF ht];exact lu (h' A bZ br fr F env bz u hA dh hE cQ bX dY) λzz dQ xq1=>gS xq1 λfY d7 yo eD eI fH jb=>(iR fY d7 yo (cg.trans eD) eI (b9.trans fH) jb .next)
def tW(Cl:W.Cl)(ok:CXOk W cx)(hs:ScF cx sc pt)(hc:(ifs= []/\c=none)\/∃e,ifs= [e]/\c=some e)(hq:q=true->hV t=true){i:Nat}{pos pos' xp:Pos}{x:Str}
  (hset:∀env x,fJ src env x=pure x)(hf:eV ls pt=true)(hsrc:MJ W d cx ls H src q it aq)(hr:CRun W d (cx.inner sc) t c elt aq.length n ls (aq++ [.list []]) it H')(hx:cx.slot x=some i)(hi:jg ls i (.ref aq.length)=some ls'):TS W d cx ls H (.Assign [.Name x xp] (.ListComp elt [⟨t,src,ifs,0⟩] sc pos) pos') .next ls' H':=by
 intro A B ρ fr F env s hA hB hE hF hR;have hb:∃b,swapsWith (.ListComp elt [⟨t,src,ifs,0⟩] sc pos) (some (.Name x xp)) pos'.line env=pure b:=⟨_,rfl⟩;obtain⟨b,hb⟩:=hb
 cases b using aE with
 | false=>
  refine wpAny_Assign_stores (TE.goS (BU Cl ok hs hc hq hset hf hsrc hr) hA hB hE hF hR λbZ br u bz cg dh cQ bX b9 dY=>?_) hb rfl;rw[BF (by rfl)];exact lu (wG ok hx hi A bZ br fr F env bz u hA dh hE cQ bX dY) λzz dQ xq2=>gS xq2 λfY d7 yo eD eI fH jb=>(iR fY d7 yo (cg.trans eD) eI (b9.trans fH) jb .next)
 | true=>
  erw [exec_Assign_Name_used x xp _ pos' hb]
  refine aF (d9 (aF ?_));show wpAny W.M A (do let _ <- comprehension (.ListComp elt [⟨t,src,ifs,0⟩] sc pos) sc env (firstIterPos [⟨t,src,ifs,0⟩] pos) (newList []) false (eval src env) (some (assign (.Name x xp) env))) _ _ _;refine aF ?_
  erw [jq hi]
  refine u3 (F:=fr++F) Cl ok hs hc hq hset hf hsrc hr hA hB hE hF.frm hR λB' ρ' D C o m s' g R r hv N=>?_;show wpAny W.M A (assign (.Name x xp) env (.ref D)) _ _ _;refine wpAny_assign_Name ((hF.mono g).store ok hE (R.front) (jo hx).2 hv λh' tk fr' f R'=>?_);refine aL (id R'.back) λrs S CC=>?_;exact bH m (S.ns (.head _) N) (λh'' hsb=>bJ (bJ (iR B' ρ' fr' g (R'.back.shed λb x hb e=>(hsb.2 b hb).trans e) (⟨r.1,r.2,r.3⟩) f .next)))
def vM{js:List Nat}{ws:List AV}:∀{ls:Ls},is.length=vs.length->fo ls (is++js) (vs++ws)=(fo ls is vs).bind λl=>fo l js ws:=by
 induction is generalizing vs with
 | nil=>intro ls h;cases vs using au with
  | nil=>rfl
  | cons zz zy=>simp at h
 | cons i is ih=>intro ls h;cases vs using au with
  | nil=>simp at h
  | cons v vs=>
   simp only[jk,fo];cases jg ls i v with
   | none=>rfl
   | some l=>exact ih (by simpa using h)
def qw:∀{vs:List AV} {ls ls':Ls},fo ls is vs=some ls'->is.length=vs.length/\ls'.length=ls.length:=by
 induction is with
 | nil=>intro vs ls ls' h;induction vs using au <;> simp[fo]at h;exact⟨rfl,by erw [h];rfl⟩
 | cons i is ih=>
  intro vs ls ls' h
  cases vs using au with
  | nil=>simp[fo]at h
  | cons v vs=>
   simp only[fo]at h;refine aL (ct.mp h) λLp h1 h2=>?_;have:=ih h2;have e:=jq h1;subst e;exact⟨by simp[this.1],by simpa using this.2⟩
def Cg(hn:is.Nodup):∀{vs:List AV} {ls ls':Ls},fo ls is vs=some ls'->fo ls is.reverse vs.reverse=some ls':=by
 induction is with
 | nil=>intro vs ls ls' h;induction vs using au <;> simp[fo]at h |-;exact h
 | cons i is ih=>
  intro vs ls ls' h;have hl:=(qw h).1
  cases vs using au with
  | nil=>simp at hl
  | cons v vs=>
   rw[bR]at hn;simp only[fo]at h;refine aL (ct.mp h) λLp h1 h2=>?_;have e1:=jq h1;have hlt:cf i ls.length=true:=by unfold jg at h1;split at h1;assumption;cases h1
   erw [ox,ox,(vM (by simpa using hl))]
   have:∃vV,fo ls is vs=some vV/\vV.set i (some v)=ls':=by
    have back:∀{is:List Nat} {vs:List AV} {ls l':Ls},i∉is->fo (ls.set i (some v)) is vs=some l'->∃vV,fo ls is vs=some vV/\vV.set i (some v)=l':=by
     intro is
     induction is with
     | nil=>intro vs ls l' zz h;induction vs using au <;> simp[fo]at h |-;exact h
     | cons j is ih=>
      intro vs ls l' hn h
      simp only[aQ,not_or]at hn
      cases vs using au with
      | nil=>simp[fo]at h
      | cons w vs=>
       simp only[fo]at h |-
       refine aL (ct.mp h) λLp h1 h2=>?_
       have e1:=jq h1
       have q:cf j ls.length=true:=by unfold jg at h1;rw[iM]at h1;split at h1;assumption;cases h1
       have:jg ls j w=some (ls.set j (some w)):=by unfold jg;erw [q];rfl
       erw [this]
       rw[e1,List.set_comm _ _ hn.1]at h2
       exact ih hn.2 h2
    rw[e1]at h2
    exact back hn.1 h2
   refine aL this λvV h3 h4=>?_
   erw [ih hn.2 h3]
   simp only[Option.bind_some,fo];have hl2:=(qw h3).2;have:jg vV i v=some (vV.set i (some v)):=by unfold jg;erw [hl2,hlt];rfl
   erw [this,h4];rfl
def rf(ok:CXOk W cx):∀{ns:List Str} {is:List Nat} {vs:List AV} {us:List Value} {ls ls':Ls} {A:Around} {B:BgT} {ρ:List Addr} {fr F:Raws} {env:Env} {s:Shared},ns.map cx.slot=is.map some->fo ls is vs=some ls'->EnvOk cx env->jY W B ρ fr env cx ls->RM W B ρ (fr++F) H s.heap->VRs W B ρ vs us->
  wpAny W.M A (gD (ns.map λn=>bindName env n) us) (λzz s'=>PS W B ρ F s env cx ls' H s') fh s
 | [],is,vs,us,ls,ls',A,B,ρ,fr,F,env,s,hm,h,hE,hF,hR,hv=>by
  cases is using au with
  | nil=>
   induction vs using au <;> simp[fo]at h
   subst h;exact bJ (pR B ρ fr (.refl B ρ) hR (.refl s) hF)
  | cons zz zy=>simp at hm
 | n::ns,is,vs,us,ls,ls',A,B,ρ,fr,F,env,s,hm,h,hE,hF,hR,hv=>by
  cases is using au with
  | nil=>simp at hm
  | cons i is=>
   rw[bk,bk]at hm
   injection hm with hm1 hm2
   cases vs using au with
   | nil=>simp[fo]at h
   | cons v vs=>
    cases hv with
    | cons q qs=>
     simp only[fo]at h;refine aL (ct.mp h) λLp h1 h2=>?_
     erw [bk];rewrite [gD]
     refine aF (bW (wpAny_bindName (hF.store ok hE hR (jo hm1).2 q λh' tk fr' f R=>?_)));rw[<- jq h1]at f;exact lu (rf (s:={s with heap:=h',toks:=tk}) ok hm2 h2 hE f R qs) λzz s' xq3=>gS xq3 λB' ρ' fr'' g R' r f'=>(pR B' ρ' fr'' g R' (⟨r.1,r.2,r.3⟩) f')
def tV(ok:CXOk W cx){ts es:List Expr}{k k':Nat}{p p' pos:Pos}{ns:List Str}(hw:jn cx.scope ts es=some (some ns))(hm:ns.map cx.slot=is.map some)(hn:is.Nodup)(h:TE W d cx ls H (.Tuple es k' p') (.U vs) H')(hl:fo ls is vs=some ls'):TS W d cx ls H (.Assign [.Tuple ts k p] (.Tuple es k' p') pos) .next ls' H':=by
 intro A B ρ fr F env s hA hB hE hF hR
 erw [exec_Assign_arm]
 refine aF (d9 ?_);refine aF (wpAny_of_eq (a:=false) rfl ?_)
 erw [(if_neg (by decide))]
 refine aF (h.goS hA hB hE hF hR λbZ br u bz cg dh cQ bX b9 dY=>?_)
 erw [sm hE.scope hE.kind hw]
 refine aF (bJ ?_);show wpAny W.M A (do rule "assign.swapped-stores";let items <- unpackItems u ns.length none;gD (ns.reverse.map λn=>bindName env n) items.reverse;pure Flow.next) _ _ _;have e1:ns.length=is.length:=by have:=congrArg je hm;simpa using this
 have e2:=(qw hl).1;refine aF (wpAny_rule ?_)
 erw [e1,e2]
 refine aF (qE (.inl (bH vs rfl rfl)) hA bX dY λus h' tk R hus=>?_);refine aF (lu (rf (s:={bz with heap:=h',toks:=tk}) ok (ns:=ns.reverse) (is:=is.reverse) (by erw [jj,jj,hm];rfl) (Cg hn hl) hE cQ R hus.reverse) λzz dQ xq4=>gS xq4 λfY d7 yo eD eI fH jb=>bJ ?_);exact iR fY d7 yo (cg.trans eD) eI (⟨fH.1.trans b9.1,fH.2.trans b9.2,fH.3.trans b9.3⟩) jb .next
end
end
mutual
def uM{p:Str×α}{l:List (Str×α)}:(p::l).lookup p.1=some p.2:=by
 show(match p.1==p.1 with | true=>some p.2 | false=>l.lookup p.1)=_
 erw [beq_self_eq_true];rfl
def qH{x:Str}{p:Str×α}{l:List (Str×α)}(h:x≠p.1):(p::l).lookup x=l.lookup x:=by
 show(match x==p.1 with | true=>some p.2 | false=>l.lookup x)=_
 erw [beq_eq_false_iff_ne.mpr h];rfl
def i9{x:Str}{l:List (Str×α)}:x∉l.map (·.1)->l.lookup x=none:=by
 induction l with
 | nil=>exact λzz=>rfl
 | cons p l ih=>
  intro h
  erw [(qH (λe=>h (by erw [e];exact .head _)))];exact ih (λm=>h (.tail _ m))
def s8{x:Str}{l:List (Str×α)}:x∈l.map (·.1)->(l.lookup x).isSome=true:=by
 induction l with
 | nil=>exact λh=>nomatch h
 | cons p l ih=>
  intro h;by_cases e:x=p.1
  ·subst e;erw [uM];rfl
  ·erw [qH e];exact ih ((aQ.mp h).resolve_left e)
def kQ{x:Str}{v:α}{l:List (Str×α)}:(l.map (·.1)).Nodup->(x,v)∈l->l.lookup x=some v:=by
 induction l with
 | nil=>exact λzz h=>nomatch h
 | cons p l ih=>
  intro hn h;have hn:=bR.mp hn;rcases aQ.mp h with q | q
  ·subst q;exact uM (p:=(x,v))
  ·erw [(qH (λe=>hn.1 (cM.mpr (bH _ q e))))];exact ih hn.2 q
def EI(ns:List Str):∀us:List α,(ns.zip us).map (·.1)=ns.take us.length:=by
 induction ns with
 | nil=>intro us;erw [List.take_nil];rfl
 | cons n ns ih=>exact λus=>us.casesOn rfl λu us=>congrArg (n::·) (ih us)
def kD{ns:List Str}{vs:List α}(h:vs.length=ns.length):(ns.zip vs).map (·.1)=ns:=by
 erw [EI,h,qm];rfl
def uj{l:List (Str×α)}{ns:List Str}:∀{vs:List α},vs.length=ns.length->(∀x v,(x,v)∈ns.zip vs->l.lookup x=some v)->ns.filterMap (λn=>(l.lookup n).map (n,·))=ns.zip vs:=by
 induction ns with
 | nil=>exact λzz zy=>rfl
 | cons n ns ih=>
  intro vs h g
  cases vs using au with
  | nil=>exact nomatch h
  | cons v vs=>
   erw [List.filterMap_cons,g n v (.head _)]
   exact congrArg (_::·) (ih (qZ h) λx w hm=>g x w (.tail _ hm))
abbrev uX(p:Str×Value)(l:List (Str×Value)):Sem (ForInStep (List (Str×Value))):=
 if(l.lookup p.1).isNone=true then pure (.yield (l++ [(p.1,p.2)]))else pure (.yield l)
def QV{B:List Str}:∀{dvs U:List Value} {L:List (Str×Value)},dvs.length=B.length->U.length<=B.length->(L.map (·.1)++B).Nodup->
  (forIn (B.zip dvs) (L++B.zip U) uX:Sem _)=pure (L++B.zip (U++dvs.drop U.length)):=by
 induction B with
 | nil=>exact λzz zy zx=>rfl
 | cons b B ih=>
  intro dvs U L h1 h2 h3
  cases dvs using au with
  | nil=>exact nomatch h1
  | cons v dvs=>
   have go:∀(w:Value) (U':List Value),U'.length<=B.length->uX (b,v) (L++(b::B).zip U)=pure (.yield ((L++ [(b,w)])++B.zip U'))->U++(v::dvs).drop U.length=w::(U'++dvs.drop U'.length)->
     (forIn ((b,v)::B.zip dvs) (L++(b::B).zip U) uX:Sem _)=pure (L++(b::B).zip (U++(v::dvs).drop U.length)):=λw U' q e1 e2=>by
    erw [List.forIn_cons,e1,e2,pure_bind]
    refine(ih (qZ h1) q ?_).trans (congrArg pure (aA ..))
    erw [bp,aA];exact h3
   cases U using au with
   | nil=>
    refine go v [] (aX _) ?_ rfl;have n:L.lookup b=none:=i9 λm=>(fb.mp h3).2.2 _ m _ (.head _) rfl;show uX (b,v) (L++ [])=_
    erw [List.zip_nil_right,bq,bq]
    exact if_pos (by erw [n];rfl)
   | cons u U=>
    refine go u U (Nat.le_of_succ_le_succ h2) ?_ rfl
    erw [aA]
    exact if_neg λe=>by
     have:=s8 (x:=b) (l:=L++(b,u)::B.zip U) (cM.mpr (bH ((b,u)) (bB _ (.head _)) rfl))
     exact nomatch (congrArg Option.isSome (jm.mp e)).symm.trans this
end
section
mutual
variable{α:Type}{M:Model}{A:Around}{Q:α->Shared->Prop}{E:Value->Shared->Prop}{s:Shared}
def y5{c:Prop} [Decidable c]{a b:Sem α}(h:¬c)(k:wpAny M A b Q E s):wpAny M A (if c then a else b) Q E s:=(if_neg h).symm ▸k
def y6{β:Type}{t:Sem β}{f:β->Sem α}{x:β}(e:t=pure x)(k:wpAny M A (f x) Q E s):wpAny M A (t >>=f) Q E s:=e ▸k
end
end
mutual
def O1{a n d:Nat}(h:d<=n):a+d-n=a-(n-d):=(Nat.sub_sub_right a h).symm
def JT{a b d:Nat}(h:d=b):(a+b)-d=a:=h ▸wL ..
def O3{a b d:Nat}(h:d=b):d-(a+b)=0:=h ▸rP (eE ..)
def Iz{M:Model}{A:Around}{E:Value->Shared->Prop}{f:Value}{s:Shared}(hd:(f= .none/\dvs= [])\/∃T o n,f= .ref T/\s.heap.get? T=some o/\o.data= .seq dvs.toArray n)
  {Q':Option (Array Value)->Shared->Prop}(hQ:∀x,(x.getD #[]).toList=dvs->Q' x s):wpAny M A (seqItems? f) Q' E s:=by
 rcases hd with⟨e1,e2⟩ | ⟨T,o,n,e1,e2,e3⟩
 ·erw [e1]
  exact aF (bJ (bJ (hQ none (by erw [e2];rfl))))
 ·erw [e1]
  exact wpAny_seqItems e2 e3 (hQ _ rfl)
end
section
mutual
variable{X Y:List Str}{U V D:List Value}
def II(h1:U.length=X.length)(h2:D.length=Y.length){n:Str}(hm:n∈(X++Y).take ((X++Y).length-D.length)):(((X++Y).zip (U++V)).lookup n).isNone=false:=by
 rw[af,JT h2,List.take_left]at hm
 erw [Dc h1.symm];rewrite [Option.isNone_eq_false_iff]
 exact s8 (by erw [bp,kD h1];exact cT _ hm)
def BP(h2:D.length=Y.length):D.drop (D.length-(X++Y).length)=D:=by erw [af,O3 h2];rfl
def IJ(hn:(X++Y).Nodup)(h1:U.length=X.length)(h2:D.length=Y.length)(h3:V.length<=Y.length):
  (forIn (((X++Y).drop ((X++Y).length-D.length)).zip D) ((X++Y).zip (U++V)) uX:Sem _)=pure (X.zip U++Y.zip (V++D.drop V.length)):=by
 erw [af,JT h2,List.drop_left,Dc h1.symm]
 exact QV h2 h3 (by erw [kD h1];exact hn)
def Mb(hn:(X++Y).Nodup)(h1:U.length=X.length)(h2:D.length=Y.length)(h3:V.length<=Y.length):
  (X++Y).filterMap (λn=>((X.zip U++Y.zip (V++D.drop V.length)).lookup n).map (n,·))=(X++Y).zip (U++(V++D.drop V.length)):=by
 have hlen:(V++D.drop V.length).length=Y.length:=by erw [af,d6,h2];exact Nat.add_sub_cancel' h3
 have hfull:(U++(V++D.drop V.length)).length=(X++Y).length:=by erw [af,hlen,h1,af];rfl
 erw [<- Dc h1.symm]
 exact uj hfull λx v hm=>kQ (by erw [kD hfull];exact hn) hm
end
end
mutual
def AA{a1 a2:Str}{ar:List Arg}{kd:List (Option Expr)}{df:List Expr}{a4:FuncBody}{a5:Scope}{a6:Addr}{a7:List (Str×Addr)}{a8 a9 a10 a11:Value}{a12:Option Addr}{a13 a14:Value}{a15:Addr}
  {dvs:List Value}{s:Shared}{X Y:List Str}{U V:List Value}(hns:ar.map (·.arg)=X++Y)(hn:(X++Y).Nodup)
  (hd:(a8= .none/\dvs= [])\/∃T o n,a8= .ref T/\s.heap.get? T=some o/\o.data= .seq dvs.toArray n)
  (h1:U.length=X.length)(h2:dvs.length=Y.length)(h3:V.length<=Y.length):
  BindsTo s ⟨a1,a2,⟨[],ar,none,[],kd,none,df⟩,a4,a5,a6,a7,a8,a9,a10,a11,a12,a13,a14,a15⟩ ⟨U++V,[]⟩ ((X++Y).zip (U++(V++dvs.drop V.length))):=by
 intro M A E Q hq;refine y6 rfl (aF (Iz hd λx hx=>?_));clear hd;subst hx;refine y5 (λe=>?_) (y5 (λe=>?_) (y6 (x:=X.zip U++Y.zip (V++(x.getD #[]).toList.drop V.length)) ?_ (y6 rfl (y5 (λe=>nomatch e) ?_))))
 ·have e:=of_decide_eq_true (ag.mp e).1;refine iA.mpr (?_:(U++V).length<=(ar.map (·.arg)).length) e
  erw [hns,af,af,h1]
  exact mN h3 _
 ·refine absurd e (?_:¬ (!(((ar.map (·.arg)).take ((ar.map (·.arg)).length-((x.getD #[]).toList.drop ((x.getD #[]).toList.length-(ar.map (·.arg)).length)).length)).filter λn=>(((ar.map (·.arg)).zip (U++V)).lookup n).isNone).isEmpty)=true)
  erw [hns,BP h2,(List.filter_eq_nil_iff.mpr λn hm e=>nE ((II h1 h2 hm).symm.trans e))]
  exact nE
 ·refine(?_:(forIn (((ar.map (·.arg)).drop ((ar.map (·.arg)).length-((x.getD #[]).toList.drop ((x.getD #[]).toList.length-(ar.map (·.arg)).length)).length)).zip ((x.getD #[]).toList.drop ((x.getD #[]).toList.length-(ar.map (·.arg)).length))) ((ar.map (·.arg)).zip (U++V)) uX:Sem _)=_)
  erw [hns,BP h2]
  exact IJ hn h1 h2 h3
 ·refine bJ ((?_:(List.map (λy:Arg=>y.arg) ar++([]:List Str)).filterMap (λn=>((X.zip U++Y.zip (V++(x.getD #[]).toList.drop V.length)).lookup n).map (n,·))=_) ▸hq)
  erw [hns,bq]
  exact Mb hn h1 h2 h3
def G7{p:Arguments}(hp:j8 p=true):p=⟨[],p.args,none,[],p.kw_defaults,none,p.defaults⟩:=by
 cases p using Arguments.casesOn with | mk po ar va ko kd kw df=>?_
 obtain⟨hp,p4⟩:=ag.mp hp;obtain⟨hp,p3⟩:=ag.mp hp;obtain⟨p1,p2⟩:=ag.mp hp;obtain rfl:=AN.mp p1;obtain rfl:=jm.mp p2;obtain rfl:=AN.mp p3;obtain rfl:=jm.mp p4;rfl
def wy{fd:FuncData}{us:List Value}{s:Shared}(hp:j8 fd.params=true)(hn:(fd.params.args.map (·.arg)).Nodup)(hd:(fd.defaults= .none/\dvs= [])\/∃T o n,fd.defaults= .ref T/\s.heap.get? T=some o/\o.data= .seq dvs.toArray n)
  (h1:us.length<=(fd.params.args.map (·.arg)).length)(h2:dvs.length<=(fd.params.args.map (·.arg)).length)(h3:(fd.params.args.map (·.arg)).length<=us.length+dvs.length):
  BindsTo s fd ⟨us,[]⟩ ((fd.params.args.map (·.arg)).zip (us++dvs.drop (us.length+dvs.length-(fd.params.args.map (·.arg)).length))):=by
 have e:=G7 hp;clear hp;generalize hns:fd.params.args.map (·.arg)=ns at *;have a1:ns.length-dvs.length<=us.length:=Nat.sub_le_iff_le_add.mpr h3;have h:=AA (a1:=fd.name) (a2:=fd.qualname) (ar:=fd.params.args) (kd:=fd.params.kw_defaults) (df:=fd.params.defaults) (a4:=fd.body) (a5:=fd.scope) (a6:=fd.globals) (a7:=fd.closure) (a9:=fd.kwdefaults) (a10:=fd.doc)
  (a11:=fd.pyModule) (a12:=fd.annotations) (a13:=fd.code) (a14:=fd.closureTuple) (a15:=fd.builtins) (X:=ns.take (ns.length-dvs.length)) (Y:=ns.drop (ns.length-dvs.length)) (U:=us.take (ns.length-dvs.length)) (V:=us.drop (ns.length-dvs.length))
  (hns.trans (lN ..).symm) (by erw [lN];exact hn) hd
  (by erw [lW,lW,iK a1,iK (wI ..)];rfl) (by erw [d6,Nat.sub_sub_self h2];rfl)
  (by erw [d6,d6];exact t5 h1 _);rw[<- e,<- aA,lN,lN,d6,<- O1 h2]at h;exact h
abbrev Cs(ps:List Str)(sc:Scope):List Str:=ps++(sc.names.filter fun(x,k)=>(k== .local || k== .cell) && !ps.contains x).map (·.1)
abbrev yt(glob:List (Str×Gv))(nm:List Str)(ps:List Str)(sc:Scope):CX:=
 {scope:=sc,slots:=(Cs ps sc).zip (cR (Cs ps sc).length),nxt:=(Cs ps sc).length,glob,nm}
structure FnOk(W:Wd)(a:Addr)(F:Fn)(fd:FuncData)(body:List Stmt):Prop where
 obj:∃oc od osl,W.K.lookup a=some ⟨oc,od, .func fd,osl⟩
 bod:fd.body= .stmts body
 dl:F.dfl.length<=F.np
 clo:fd.closure= []
 glo:fd.globals=mainGlobals
 bui:fd.builtins=builtinsNs
 code:codeIn W.K fd.code fd.qualname=true
 par:j8 fd.params=true
 sc:rY (fd.params.args.map (·.arg)) fd.scope=true
 dfl:(fd.defaults= .none/\F.dfl= [])\/∃T oT its n,fd.defaults= .ref T/\W.K.lookup T=some oT/\oT.data= .seq its n/\oV W.oa its.toList=some F.dfl
 fn:F=Au W.glob W.nm fd.params F.dfl fd.scope body
def u4(F:Fn){glob:List (Str×Gv)}{nm:List Str}{p:Arguments}{dfl:List AV}{sc:Scope}{body:List Stmt}(h:F=Au glob nm p dfl sc body):
  F.np=(p.args.map (·.arg)).length/\F.nl=(Cs (p.args.map (·.arg)) sc).length+2/\F.body=body.map (j6 40 (yt glob nm (p.args.map (·.arg)) sc)):=by
 subst h;exact eC rfl rfl rfl
end
section
mutual
variable{W:Wd}{B:BgT}{ρ:List Addr}
def Ap{v:Value}{x:AV}(h:BL W.oa v=some x):VR W B ρ x v:=by
 cases v using gO with
 | none=>erw [<- ae h];exact .none
 | bool b=>erw [<- ae h];exact .bool
 | int i t=>erw [<- ae h];exact .int
 | str s t=>
  erw [<- ae h]
  have:=VR.str (W:=W) (B:=B) (ρ:=ρ) (s:=s.cps.toList) (t:=t);rwa [gY]at this
 | ref a=>
  refine aL (bK.mp h) λi hi e=>?_
  erw [<- e]
  refine .obj ?_;refine aL (List.findIdx?_eq_some_iff_getElem.mp hi) λhlt h2 zz=>?_
  erw [bl hlt,beq_iff_eq.mp h2];rfl
 | _=>exact dz h
def yz{vs:List Value}:∀{xs:List AV},oV W.oa vs=some xs->VRs W B ρ xs vs:=by
 induction vs with
 | nil=>intro xs h;erw [<- ae h];exact .nil
 | cons v vs ih=>
  intro xs h;have h:(match BL W.oa v,oV W.oa vs with | some x,some y=>some (x::y) | _,_=>none)=some xs:=h;cases e1:BL W.oa v with
  | none=>rw[e1]at h;exact dz h
  | some x=>cases e2:oV W.oa vs with
   | none=>rw[e1,e2]at h;exact dz h
   | some y=>rw[e1,e2]at h;erw [<- ae h];exact .cons (Ap e1) (ih e2)
end
end
mutual
def vc{kd:Str->Option NameKind}{x:Str}(hk:kd x=some .local):∀(bs:List (Str×Value)) (m:Str->Option Value),(bs.map (·.1)).Nodup->bindL kd bs m x=(match bs.lookup x with | some v=>some v | none=>m x)
 | [],m,_=>rfl
 | (n,v)::r,m,hn=>by
  simp only[bk,bR]at hn;unfold bindL
  erw [vc hk r _ hn.2]
  simp only[f9];by_cases e:x=n
  ·subst e
   erw [i9 hn.1]
   simp[hk]
  ·have e':(x==n)=false:=by simpa using e
   erw [e']
   cases r.lookup x with
   | some zz=>rfl
   | none=>try dsimp only;split <;> simp[e]
def vd{kd:Str->Option NameKind}{x:Str}(hk:kd x=some .cell):∀(bs:List (Str×Value)) (m:Str->Option Value),(bs.map (·.1)).Nodup->bindC kd bs m x=(match bs.lookup x with | some v=>some v | none=>m x)
 | [],m,_=>rfl
 | (n,v)::r,m,hn=>by
  simp only[bk,bR]at hn;unfold bindC
  erw [vd hk r _ hn.2]
  simp only[f9];by_cases e:x=n
  ·subst e
   erw [i9 hn.1]
   simp[hk]
  ·have e':(x==n)=false:=by simpa using e
   erw [e']
   cases r.lookup x with
   | some zz=>rfl
   | none=>try dsimp only;split <;> simp[e]
def jX:∀(names:List (Str×NameKind)) (n:Nat) (acc:List (Str×Addr)),(names.map (·.1)).Nodup->(acc.map (·.1)).Nodup->(∀x∈acc.map (·.1),x∉names.map (·.1))->((cellsFrom n names acc).map (·.1)).Nodup
 | [],n,acc,_,h,_=>h
 | (y,k)::r,n,acc,hn,ha,hd=>by
  simp only[bk,bR]at hn;unfold cellsFrom
  split
  ·refine jX r _ _ hn.2 ?_ ?_
   ·simp only[bk,bR];exact⟨λq=>hd y q (by simp),ha⟩
   ·intro x hx;simp only[bk,aQ]at hx;rcases hx with rfl | hx
    ·exact hn.1
    ·exact λq=>hd x hx (by simp only[bk,aQ];exact .inr q)
  ·exact jX r _ _ hn.2 ha λx hx q=>hd x hx (by simp only[bk,aQ];exact .inr q)
def St.allocMany{B:BgT}{F:Raws}{h':Heap}(S:St B F rs h)(k:∀b x,h.get? b=some x->h'.get? b=some x):∀(l:Raws),(∀p∈l,h.get? p.1=none/\h'.get? p.1=some p.2)->(l.map (·.1)).Nodup->St B (l++F) rs h'
 | [],_,_=>S.ext k
 | (a,o)::l,hl,hn=>by
  simp only[bk,bR]at hn;have S':=St.allocMany S k l (λp hp=>hl p (.tail _ hp)) hn.2;have ha:=hl (a,o) (.head _);refine kE (S.free ha.1) λn1 n2 n3=>?_;refine⟨S'.keep,λp hp=>?_,λp hp=>(eC ((S'.got p hp).1) ((S'.got p hp).2.1) ?_),S'.nod,?_⟩
  ·rcases aQ.mp hp with rfl | hp
   ·exact⟨ha.2,n1⟩
   ·exact S'.frm p hp
  ·show p.1∉(a::(l++F).map (·.1));rw[aQ,not_or];exact⟨λq=>n3 (qG hp q),(S'.got p hp).2.2⟩
  ·show(a::(l++F).map (·.1)).Nodup;refine bR.mpr ⟨?_,S'.nodF⟩
   erw [bp];rewrite [dy,not_or]
   exact⟨hn.1,n2⟩
def mF{sc:Scope}(h:rY ps sc=true):sc.kind= .function/\sc.isCoroutine=false/\sc.isGenerator=false/\(∀x∈sc.names,sc.names.lookup x.1=some x.2)/\(sc.names.map (·.1)).Nodup/\(∀x∈sc.names,(x.2 != .free)=true)/\ps.Nodup/\∀p∈ps,sc.names.lookup p=some .local\/sc.names.lookup p=some .cell:=by
 obtain⟨h,h8⟩:=ag.mp h;obtain⟨h,h7⟩:=ag.mp h;obtain⟨h,h6⟩:=ag.mp h;obtain⟨h,h5⟩:=ag.mp h;obtain⟨h,h4⟩:=ag.mp h;obtain⟨h,h3⟩:=ag.mp h;obtain⟨h1,h2⟩:=ag.mp h;exact QI (beq_iff_eq.mp h1) ((gL _).mp h2) ((gL _).mp h3) (λx m=>beq_iff_eq.mp (aS.mp h4 x m)) (of_decide_eq_true h5) (λx m=>aS.mp h6 x m) (of_decide_eq_true h7) (λx m=>(jG.mp (aS.mp h8 x m)).imp beq_iff_eq.mp beq_iff_eq.mp)
def Em{sc:Scope}(h:rY ps sc=true){x:Str}{i:Nat}(hi:(Cs ps sc)[i]? =some x):(sc.names.lookup x=some .local\/sc.names.lookup x=some .cell)/\(i<ps.length/\ps[i]? =some x\/ps.length<=i/\x∉ps):=by
 refine Nd (mF h) λzz zy zx h4 zw zv zu h8=>?_;unfold Cs at hi;by_cases hlt:i<ps.length
 ·rw[dj hlt]at hi;exact⟨h8 x (bM hi), .inl ⟨hlt,hi⟩⟩
 ·rw[de (by exact iA.mp hlt)]at hi;have hm:=bM hi;refine aL (cM.mp hm) λxq1 hy xq2=>?_;obtain⟨y,k⟩:=xq1;subst xq2;obtain⟨hy1,hy2⟩:=List.mem_filter.mp hy;have hk:=h4 _ hy1;simp only[cv,Bool.or_eq_true,beq_iff_eq,gL,List.contains_eq_mem,decide_eq_false_iff_not]at hy2
  try dsimp only at hk
  refine⟨?_, .inr ⟨by exact iA.mp hlt,hy2.2⟩⟩;rcases hy2.1 with e | e
  ·subst e;exact .inl hk
  ·subst e;exact .inr hk
def nI{ns:List Str}{x:Str}{i:Nat}(h:(ns.zip (cR ns.length)).lookup x=some i):i<ns.length/\ns[i]? =some x:=by
 rw[List.range_eq_range']at h;have:=oO h;exact⟨by exact(bE bf ay [(bf,aJ (aG 0) ay)] aR this.2.1),by simpa using this.2.2⟩
def Ia(W:Wd)(ps:List Str)(sc:Scope):CXOk W (yt W.glob W.nm ps sc):=by
 refine⟨rfl,rfl,λx y i hx hy=>?_,λx i hx=>(nI hx).1⟩;have h1:=(nI hx).2;have h2:=(nI hy).2;rw[h1]at h2;exact ae h2
end
section
mutual
variable{vs args:List AV}{a n:Nat}{fd:FuncData}{body:List Stmt}{B:BgT}{ls':Ls}{ρ:List Addr}{v:AV}
variable{W:Wd}{d:Nat}{H H':Hp}
def TU{D:Nat}(h:n=a+(D-(D-(n-a)))):a<=n:=by exact(gj ai ay [(aJ ai bF,ay)] aR (lq h))
def TT{D:Nat}(h:n=a+(D-(D-(n-a)))):n<=a+D:=by exact(gU ai (aJ ay bF) [(ai,aJ ay cP),(cP,bF)] aR (pJ h) (wI _ _))
def TQ{D:Nat}(h:a<=n)(h2:n<=a+D)(h3:D<=n):a+D-n=D-(n-a):=by erw [Nat.sub_sub_right _ h,dn];rfl
def Aw{a:Addr}{F:Fn}(ok:FnOk W a F fd body)(hvs:vs=args++F.dfl.drop (F.dfl.length-(F.np-args.length)))(hl:vs.length=F.np){s:Shared}{us:List Value}(X:W.K.In s.heap)(hus:VRs W B ρ args us){p:Prop}
  (k:∀ws:List Value,ws.length=(fd.params.args.map (·.arg)).length->BindsTo s fd ⟨us,[]⟩ ((fd.params.args.map (·.arg)).zip ws)->VRs W B ρ vs ws->p):p:=by
 obtain⟨dvs,hd1,hd2⟩:∃dvs:List Value,((fd.defaults= .none/\dvs= [])\/∃T o n,fd.defaults= .ref T/\s.heap.get? T=some o/\o.data= .seq dvs.toArray n)/\VRs W B ρ F.dfl dvs:=by
  rcases ok.dfl with⟨e1,e2⟩ | ⟨T,oT,its,n,e1,e2,e3,e4⟩
  ·exact bH ([]) (.inl ⟨e1,rfl⟩) (by erw [e2];exact .nil)
  ·exact bH its.toList (.inr ⟨T,oT,n,e1,X _ _ e2,by erw [e3];rfl⟩) (yz e4)
 have hnp:=(u4 F ok.fn).1;have e:F.np=args.length+(F.dfl.length-(F.dfl.length-(F.np-args.length))):=hl.symm.trans ((congrArg je hvs).trans (af.trans (congrArg (args.length+ ·) d6)));have l1:=TU e;have l2:=TT e;have hu:=hus.length;have hd:=hd2.length;have bt:=wy (fd:=fd) (us:=us) (dvs:=dvs) (s:=s) ok.par (mF ok.sc).2.2.2.2.2.2.1 hd1 (by erw [hu,<- hnp];exact l1) (by erw [hd,<- hnp];exact ok.dl) (by erw [hu,hd,<- hnp];exact l2);rw[hu,hd,<- hnp,TQ l1 l2 ok.dl]at bt;have hall:VRs W B ρ vs (us++dvs.drop (F.dfl.length-(F.np-args.length))):=by erw [hvs];exact hus.append (hd2.drop _)
 exact k _ (hall.length.trans (hl.trans hnp)) bt hall
def FC{ps:List Str}{ws:List Value}{y:Str}{i m:Nat}(hwl:ws.length=ps.length)(hn:ps.Nodup)(hall:VRs W B ρ vs ws)(hcase:(i<ps.length/\ps[i]? =some y)\/(ps.length<=i/\y∉ps)):
  ∃v:Option Value,(match (ps.zip ws).lookup y with | some w=>some w | none=>none)=v/\∀av,(vs.map some++cC m none)[i]? =some (some av)->∃u,v=some u/\VR W B ρ av u:=by
 have hvl:(vs.map some).length=ps.length:=(aK _).trans (hall.length.symm.trans hwl);rcases hcase with⟨hlt,hp⟩ | ⟨hge,hp⟩
 ·have hiw:i<ws.length:=hwl.symm ▸hlt;have hlk:(ps.zip ws).lookup y=some ws[i]:=kQ (by erw [kD hwl];exact hn) (List.mem_iff_getElem?.mpr ⟨i,List.getElem?_zip_eq_some.mpr ⟨hp,bl hiw⟩⟩);refine bH (some ws[i]) (by erw [hlk];rfl) (λav hav=>(bH _ rfl ?_));rw[dj (hvl.symm ▸hlt),eu]at hav;refine aL (bK.mp hav) λav' h1 h2=>?_;refine aL (hall.get h1) λu hu hr=>?_;rw[bl hiw]at hu
  erw [ae hu,<- ae h2];exact hr
 ·refine bH none (by erw [(i9 (by erw [kD hwl];exact hp))];rfl) (λav hav=>?_);rw[de (hvl.symm ▸hge)]at hav;exact nomatch (List.mem_replicate.mp (bM hav)).2
def C2{d:Nat}(h:a+1+2*d<=960):a+1<=recursionLimit:=aj (aj (bu _ _) h) (ab rfl)
def u6(W1:W.Top){a:Addr}{F:Fn}(ok:FnOk W a F fd body)(hvs:vs=args++F.dfl.drop (F.dfl.length-(F.np-args.length)))(hl:vs.length=F.np){fl:Fl}
  (hb:vk W d (yt W.glob W.nm (fd.params.args.map (·.arg)) fd.scope) (vs.map some++cC (F.nl-F.np) none) H body fl ls' H')(hv:fl= .ret v\/(fl= .next/\v= .none))
  {A:Around}{B:BgT}{ρ:List Addr}{AO:Raws}{s:Shared}{us:List Value}{R:Result->Shared->Prop}(hh:A.handled=none)(hdp:A.depth+1+2*d<=960)(hun:A.units+3+16*d<=9000)(hB:gu W B)(hR:RM W B ρ AO H s.heap)(hus:VRs W B ρ args us)
  (hq:∀u s',PV W B ρ AO s v H' u s'->R (.ok (.ret u)) s'):codeAny W.M A (.call (.ref a) ⟨us,[]⟩) R s:=by
 have X:=W1.K (hR.base hB);refine t9 (ok.obj) λoc od osl hK=>?_;refine Aw ok hvs hl X hus λws hwl bt hall=>?_;refine Nd (mF ok.sc) λc1 c2 c3 zz c5 c6 c7 c8=>?_;generalize hps:fd.params.args.map (·.arg)=ps at *;have hbn:((ps.zip ws).map (·.1)).Nodup:=by erw [kD hwl];exact c7
 have hkind:∀x∈ps.zip ws,fd.scope.names.lookup x.1=some .local\/(fd.scope.names.lookup x.1=some .cell/\((cellsFrom (s.heap.objs.size+1) fd.scope.names []).lookup x.1).isSome=true):=by
  intro x hx
  have hm:x.1∈ps:=by have:=jF (f:=(·.1)) hx;rwa [kD hwl]at this
  rcases c8 _ hm with e | e
  ·exact .inl e
  ·exact .inr ⟨e,cellsFrom_some _ _ _ (.inl e)⟩
 refine codeAny_call_function (hroom:=C2 hdp) (X _ _ hK) rfl c2 c3 ok.bod (codeRec_of X ok.code) (bt W.M A.in1 _ _ ?_)
 erw [ok.clo]
 refine wpAny_newFunctionEnv_cells c1 hkind λenv he bz x=>?_;refine⟨(W1.T.nolimit.keeps (hR.base hB)).keeps x.toInCall.keep,codeAny_func ?_⟩;have henv:env=callEnvC fd s.heap.objs.size a:=he;have el:env.locals=s.heap.objs.size:=by erw [henv];rfl
 have ec:env.cells=cellsFrom (s.heap.objs.size+1) fd.scope.names []:=by erw [henv];rfl
 have es:env.scope=fd.scope:=by erw [henv];rfl
 have ek:env.kindOf=λn=>fd.scope.names.lookup n:=by funext n;unfold Env.kindOf;erw [es];rfl
 refine gS (x.toInCall.ns) λoL eL epL g1 g2 g3 g4=>?_;have cn:(env.cells.map (·.1)).Nodup:=by erw [ec];exact jX _ _ _ c5 List.nodup_nil (λzz h=>by simp at h)
 have cget:∀n c,(n,c)∈env.cells->∃o,bz.heap.get? c=some o/\o.data= .cell (bindC env.kindOf (ps.zip ws) (λzz=>none) n):=λn c h=>x.cell n c (kQ cn h);let fr:Raws:=(env.locals,oL)::env.cells.map λp=>(p.2,(bz.heap.get? p.2).getD oL);have hfr:∀p∈fr,s.heap.get? p.1=none/\bz.heap.get? p.1=some p.2:=by
  intro p hp
  rcases aQ.mp hp with rfl | hp
  ·exact⟨bP (by erw [el];exact aw _),g1⟩
  ·refine aL (cM.mp hp) λxq3 hq xq4=>?_;obtain⟨n,c⟩:=xq3;subst xq4;refine aL (cget n c hq) λo ho zz=>?_;refine⟨bP ?_,by try dsimp only;erw [ho];rfl⟩;have:=x.above n c hq;rw[el]at this;exact d5 this
 have hfn:(fr.map (·.1)).Nodup:=by
  show(env.locals::(env.cells.map λp=>(p.2,(bz.heap.get? p.2).getD oL)).map (·.1)).Nodup
  erw [iC]
  refine bR.mpr ⟨λq=>?_,?_⟩
  ·refine aL (cM.mp q) λxq5 hq e=>?_;obtain⟨n,c⟩:=xq5;have:=x.above n c hq;have e:c=env.locals:=e;rw[e]at this;exact jQ _ this
  ·show(env.cells.map λp=>p.2).Nodup;exact List.pairwise_map.mpr x.apart
 refine aL hR λrs S C=>?_;have bX:RM W B ρ (fr++AO) H bz.heap:=(bH rs (S.allocMany x.toInCall.keep fr hfr hfn) C);have hE:EnvOk (yt W.glob W.nm ps fd.scope) env:=by
  refine⟨es,by erw [henv];exact ok.glo,by erw [henv];exact ok.bui,c1,λy hy=>?_⟩
  erw [ec]
  exact jP.mp (cellsFrom_some _ _ _ (.inl hy))
 have hF:jY W B ρ fr env (yt W.glob W.nm ps fd.scope) (vs.map some++cC (F.nl-F.np) none):=by
  refine CE oL _ (.head _) ((i5 eL epL g2 g3 g4)) (λy z c h1 h2=>?_) (λy hy=>?_) (λy i hy=>?_)
  ·exact name_of_addr x.apart (eT h1) (eT h2)
  ·rw[ek]at hy;have:=c6 _ (eT hy);simp at this
  ·have hg:=(nI hy).2;obtain⟨hk,hcase⟩:=Em ok.sc (hps ▸hg);rw[hps]at hcase;have val:=FC (m:=F.nl-F.np) hwl c7 hall hcase;refine aL val λv hv1 hv2=>?_;refine bH v ?_ hv2;rcases hk with hk | hk
   ·refine .inl ⟨by erw [ek];exact hk,?_⟩
    erw [(vc (by erw [ek];exact hk) _ _ hbn)]
    exact hv1
   ·have hcs:=jP.mp (cellsFrom_some fd.scope.names (s.heap.objs.size+1) [] (x:=y) (.inl hk));obtain⟨c,hc⟩:=hcs;rw[<- ec]at hc;refine aL (x.cell y c hc) λo ho hd=>?_;refine .inr ⟨.inl (by erw [ek];exact hk),c,o,hc, .tail _ (cM.mpr ⟨(y,c),eT hc,by erw [ho];rfl⟩),?_⟩
    erw [hd,(vd (by erw [ek];exact hk) _ _ hbn),<- hv1];rfl
 have hA':AOk (A.deeper env) d:=⟨hh,hdp,hun⟩;refine y4 (x.toInCall.same) λi7 tk xq6=>?_;subst xq6;refine dN (hb (A.deeper env) B ρ fr AO env _ hA' hB hE hF bX) (λr s' xq7=>jT xq7 λB' ρ' fr' g R rr f q=>?_) λzz zy e=>e.elim;have R':RM W B' ρ' AO H' s'.heap:=R.dropF;rcases hv with rfl | ⟨rfl,rfl⟩
 ·cases q with
  | ret z=>exact hq _ _ (d0 B' ρ' g R' (⟨rr.1,rr.2,rr.3⟩) z)
 ·cases q
  exact hq _ _ (d0 B' ρ' g R' (⟨rr.1,rr.2,rr.3⟩) .none)
def Hh(W1:W.Top){a:Addr}{F:Fn}(ok:FnOk W a F fd body)(hvs:vs=args++F.dfl.drop (F.dfl.length-(F.np-args.length)))(hl:vs.length=F.np){fl:Fl}
  (hb:vk W d (yt W.glob W.nm (fd.params.args.map (·.arg)) fd.scope) (vs.map some++cC (F.nl-F.np) none) H body fl ls' H')(hv:fl= .ret v\/(fl= .next/\v= .none)):Ge W (d+1) H args (λus=>call (.ref a) us) v H':=by
 intro A B ρ AO s us hA hB hR hus;exact wpAny_call (u6 W1 ok hvs hl hb hv hA.handled (by have:=hA.depth;exact(bE (aJ bf (fZ 2 ay)) (aG 960) [(aJ ai (fZ 2 cN),aG 960)] aR this)) (by have:=hA.units;exact(bE (aJ (aJ ai (aG 3)) (fZ 16 ay)) (aG 9000) [(aJ ai (fZ 16 cN),aG 9000)] aR this)) hB hR hus λu s' z=>z)
def St.allocManyM{F rs:Raws}{h h':Heap}(S:St B F rs h)(k:∀b x,h.get? b=some x->h'.get? b=some x)(l:Raws)(hl:∀p∈l,h.get? p.1=none/\h'.get? p.1=some p.2)(hn:(l.map (·.1)).Nodup):St B F (rs++l) h':=by
 have S':=S.ext k;refine⟨S'.keep,S'.frm,λp hp=>?_,?_,S'.nodF⟩
 ·rcases dy.mp hp with hp | hp
  ·exact S'.got p hp
  ·refine kE (S.free (hl p hp).1) λn1 n2 n3=>?_;exact eC ((hl p hp).2) n1 n2
 ·erw [bp]
  refine fb.mpr (eC S'.nod hn (λx hx y hy q=>?_));subst q;refine aL (cM.mp hy) λp hp xq8=>?_;subst xq8;exact(S.free (hl p hp).1).2.2 hx
def KV(W1:W.Top){c:Nat}{C a:Addr}{F:Fn}(hC:W.cat c=some C)(hm:makesIn W.K C=true)(hi:findIn W.K (.ref C) "__init__"=some (some (.ref a)))(hf:typeIn W.K (.ref a)=some (.type "function"))(ok:FnOk W a F fd body)(hvs:vs=(.ref H.length::args)++F.dfl.drop (F.dfl.length-(F.np-(args.length+1))))(hl:vs.length=F.np){fl:Fl}
  (hb:vk W d (yt W.glob W.nm (fd.params.args.map (·.arg)) fd.scope) (vs.map some++cC (F.nl-F.np) none) (H++ [.n c []]) body fl ls' H')(hv:fl= .ret .none\/fl= .next):Ge W (d+1) H args (λus=>call (.ref C) us) (.ref H.length) H':=by
 intro A B ρ AO s us hA hB hR hus;have X:=W1.K (hR.base hB);obtain⟨h,g,dr,t,os⟩:=s;have hu:∀c,(A.under c).handled=A.handled:=λc=>rfl;refine wpAny_call (make_core (makes_of X hm) (looks_findIn X hi) (λself=>bind_fn X self hf) (.inl rfl) ?_);have hlen:=hR.len;have kk:∀b x,h.get? b=some x->((h.push emptyDict).push (instObj C h.objs.size)).get? b=some x:=λb x e=>cG _ (cG _ e);have hs1:(h.push emptyDict).objs.size=h.objs.size+1:=Heap.size_push ..;have bX:=hR.newCell (h':=(h.push emptyDict).push (instObj C h.objs.size)) (c:= .n c []) (a:=h.objs.size+1) (.n (n:=0) hC .nil) λrs S=>S.allocManyM kk [(h.objs.size+1,instObj C h.objs.size),(h.objs.size,dictOf [] 0)] (by
  intro p hp
  simp only[aQ,List.mem_nil_iff,or_false]at hp
  rcases hp with rfl | rfl
  ·exact⟨bP (ow _),by have:=dD (h.push emptyDict) (o:=instObj C h.objs.size) rfl;rwa [hs1]at this⟩
  ·exact⟨bP (aw _),cG _ (dD _ rfl)⟩) (by simp)
 have hself:VR W B (ρ++ [h.objs.size+1]) (.ref H.length) (.ref (h.objs.size+1)):= .ref (by erw [<- hlen];simp);refine u6 (s:=⟨(h.push emptyDict).push (instObj C h.objs.size),g,dr,t,os⟩) W1 ok (args:= .ref H.length::args) (by simpa using hvs) hl hb (v:= .none) (by rcases hv with e | e;exact .inl e;exact .inr ⟨e,rfl⟩) (by erw [hu];exact hA.handled) ?_ ?_ hB bX.2 (.cons hself (hus.mono bX.1)) λu s' z=>?_
 ·have:=hA.depth;have e:(A.under (.builtin "type.__call__" ⟨.ref C::us,[]⟩)).depth=A.depth+1:=by
   show A.depth+(Code.builtin "type.__call__" ⟨.ref C::us,[]⟩).weight=_
   erw [(show(Code.builtin "type.__call__" ⟨.ref C::us,[]⟩).weight=1 by kernel_rfl)];rfl
  erw [e];exact(bE (aJ (eS bf) (fZ 2 ay)) (aG 960) [(aJ ai (fZ 2 cN),aG 960)] aR this)
 ·have:=hA.units;have e:(A.under (.builtin "type.__call__" ⟨.ref C::us,[]⟩)).units=A.units+1:=by
   show A.units+(Code.builtin "type.__call__" ⟨.ref C::us,[]⟩).cUnits=_
   erw [(show(Code.builtin "type.__call__" ⟨.ref C::us,[]⟩).cUnits=1 by kernel_rfl)];rfl
  erw [e];exact(bE (aJ (aJ bf (aG 3)) (fZ 16 ay)) (aG 9000) [(aJ ai (fZ 16 cN),aG 9000)] aR this)
 ·refine fy z λB' ρ' g' R' r' v'=>?_;cases v'
  exact⟨rfl,B',ρ',bX.1.trans g',R',⟨r'.1,r'.2,r'.3⟩,hself.mono g'⟩
end
end
mutual
abbrev MS(W:Wd)(x:Str):Gv->Prop
 | .fn i=> ∃a,W.fa[i]? =some a/\Gl W x (.ref a)/\keepIn W.K (.ref a)=true
 | .cls i=> ∃C,W.cat i=some C/\Gl W x (.ref C)/\keepIn W.K (.ref C)=true
 | .bi b=>Gl W x (ve b)
 | .rev=>Gl W x (.type "reversed")
 | .enum=>Gl W x (.type "enumerate")
 | .isinst=>Gl W x (.builtin "isinstance")
 | .ty .bool=>Gl W x (.type "bool")
 | .ty .int=>Gl W x (.type "int")
 | .ty (.cls _)=>False
 | .val v=> ∃u,Gl W x u/\∀B ρ,gu W B->VR W B ρ v u
structure Wd.Ok(W:Wd):Prop where
 top:W.Top
 objs:W.Objs
 cl:W.Cl
 ci:W.Ci
 glob:∀x g,W.glob.lookup x=some g->MS W x g
 fns:∀(f:Nat) (F:Fn),W.P.fns[f]? =some F->F.body= [.fail]\/∃a fd body,W.fa[f]? =some a/\FnOk W a F fd body
 fin:∀(i j:Nat) (a:Addr),W.fa[i]? =some a->True
 new:∀(c:Nat) (Cc:Cls) (C:Addr),W.P.clss[c]? =some Cc->W.cat c=some C->(∃F,W.P.fns[Cc.init]? =some F/\F.body= [.fail])\/(makesIn W.K C=true/\∃a,W.fa[Cc.init]? =some a/\findIn W.K (.ref C) "__init__"=some (some (.ref a))/\typeIn W.K (.ref a)=some (.type "function"))
def th{W:Wd}(W1:W.Top){f:Value}(h:keepIn W.K f=true):∀h,(∀b o,W.base.get? b=some o->h.get? b=some o)->lO W.M h f:=λh' k=>by
 refine aL (looks_keep (M:=W.M) h (W1.K k)) λq hq L=>?_;rcases hq with rfl | rfl
 ·exact .inl L
 ·exact .inr L
set_option tactic.hygienic true in
theorem lG{W:Wd}{cx:CX}(ok:CXOk W cx){x:Str}{g:Gv}(h:cx.gv x=some g):cx.scope.names.lookup x=some .globalImplicit/\Ei x=false/\W.glob.lookup x=some g:=by
 unfold CX.gv at h
 split at h
 ·rename_i q
  rw[cv,beq_iff_eq,gL]at q;exact eC q.1 q.2 (ok.glob ▸h)
 ·cases h
abbrev jZ(W:Wd)(d:Nat)(H:Hp)(f:Nat)(args:List AV)(v:AV)(H':Hp):Prop:=
 ∃d' a F fd body vs fl ls',d=d'+1/\W.fa[f]? =some a/\FnOk W a F fd body/\vs=args++F.dfl.drop (F.dfl.length-(F.np-args.length))/\vs.length=F.np/\
  vk W d' (yt W.glob W.nm (fd.params.args.map (·.arg)) fd.scope) (vs.map some++cC (F.nl-F.np) none) H body fl ls' H'/\(fl= .ret v\/(fl= .next/\v= .none))
def jZ.op{W:Wd}(W1:W.Top){d:Nat}{H H':Hp}{f:Nat}{args:List AV}{v:AV}(h:jZ W d H f args v H'):∃a,W.fa[f]? =some a/\Ge W d H args (λus=>call (.ref a) us) v H':=by
 refine Na h λd' a F fd body vs fl ls' xq1 ha ok h1 h2 h3 h4=>?_;subst xq1;exact bH a ha (Hh W1 ok h1 h2 h3 h4)
def jZ.new{W:Wd}(W1:W.Ok){d:Nat}{H H':Hp}{c:Nat}{Cc:Cls}{args:List AV}(hc:W.P.clss[c]? =some Cc){C:Addr}(hC:W.cat c=some C)(h:jZ W d (H++ [.n c []]) Cc.init (.ref H.length::args) .none H')(hnf:∀F,W.P.fns[Cc.init]? =some F->F.body≠ [.fail]):Ge W d H args (λus=>call (.ref C) us) (.ref H.length) H':=by
 refine Na h λd' a F fd body vs fl ls' xq2 ha ok h1 h2 h3 h4=>?_;subst xq2;rcases W1.new c Cc C hc hC with⟨F',e1,e2⟩ | ⟨m,a',ha',hi,ht⟩
 ·exact absurd e2 (hnf F' e1)
 ·rw[ha]at ha';(replace ha':=ae ha';subst ha');exact KV W1.top hC m hi ht ok (by simpa using h1) h2 h3 (by rcases h4 with e | ⟨e,_⟩;exact .inl e;exact .inr e)
def bc{a:α}{p:Prop}(h:(none:Option α)=some a):p:=nomatch h
def cq{p:Prop}(h:false=true):p:=Bool.noConfusion h
abbrev Km:Expr->Bool
 | .BoolOp .. =>false
 | .UnaryOp .Not _ _=>false
 | .IfExp .. =>false
 | .Compare .. =>false
 | _=>true
abbrev ER:Expr->Bool
 | .Compare .. =>true
 | _=>false
abbrev Lz:Expr->Bool
 | .ListComp .. =>true
 | _=>false
abbrev JF:Expr->Bool
 | .Tuple .. =>true
 | _=>false
abbrev Tr(W:Wd)(d:Nat)(cx:CX)(ls:Ls)(H H':Hp)(elt:Expr)(gens:List Comprehension)(sc:Scope)(v:AV):Prop:=
  ∃t it ifs pt q aq i m,gens= [⟨t,it,ifs,0⟩]/\ScF cx sc pt/\(∀env x,fJ it env x=pure x)/\(q=true->hV t=true)/\v= .ref aq.length/\eV ls pt=true/\MJ W d cx ls H it q i aq/\∃ce,((ifs= []/\ce=none)\/∃e,ifs= [e]/\ce=some e)/\CRun W d (cx.inner sc) t ce elt aq.length m ls (aq++ [.list []]) i H'
structure RE(W:Wd)(f:Nat->Ls->Hp->E->Option (AV×Hp))(cx:CX)(e:Expr)(c:E):Prop where
 ev:∀d ls H v H',f d ls H c=some (v,H')->TE W d cx ls H e v H'
 fs:∀d ls H r,f d ls H c=some r->∀env x,fJ e env x=pure x
 tb:ER e=true->∀d ls H v H' q,f d ls H c=some (v,H')->gW v=some q->TB W d cx ls H e q H'
 lc:Lz e=true->∀d ls H v H',f d ls H c=some (v,H')->∃elt gens sc p,e= .ListComp elt gens sc p/\Tr W d cx ls H H' elt gens sc v
 tv:JF e=true->∀d ls H v H',f d ls H c=some (v,H')->∃us,v= .U us
def RE.plain{W:Wd}{f:Nat->Ls->Hp->E->Option (AV×Hp)}{cx:CX}{e:Expr}{c:E}(ev:∀d ls H v H',f d ls H c=some (v,H')->TE W d cx ls H e v H')(fs:∀env x,fJ e env x=pure x)
  (hs:(ER e || Lz e || JF e)=false):RE W f cx e c:=by
 simp only[eO]at hs;exact⟨ev,λzz zy zx zw zv=>fs,λh=>cq (hs.1.1.symm.trans h),λh=>cq (hs.1.2.symm.trans h),λh=>cq (hs.2.symm.trans h)⟩
structure Snd(W:Wd)(r:Ev):Prop where
 e:∀k cx e,CXOk W cx->RE W r.e cx e (cj k cx e)
 es:∀k cx es,CXOk W cx->es.all cu=true->∀d ls H vs H',r.es d ls H (es.map (cj k cx))=some (vs,H')->TL W d cx ls H es vs H'
 t:∀k cx e,CXOk W cx->∀d ls H b H',r.t d ls H (cj k cx e)=some (b,H')->TB W d cx ls H e b H'
 s:∀k cx st,CXOk W cx->∀d ls H fl ls' H',r.s d ls H (j6 k cx st)=some (fl,ls',H')->TS W d cx ls H st fl ls' H'
 ss:∀k cx sts,CXOk W cx->∀d ls H fl ls' H',r.ss d ls H (sts.map (j6 k cx))=some (fl,ls',H')->vk W d cx ls H sts fl ls' H'
 asg:∀k cx t c,CXOk W cx->mM k cx t=some c->∀d ls H v ls' H',r.asg d ls H c v=some (ls',H')->TA W d cx ls H t v ls' H'
 asgs:∀k cx ts cs,CXOk W cx->ts.all cu=true->ts.mapM (mM k cx)=some cs->∀d ls H vs ls' H',r.asgs d ls H cs vs=some (ls',H')->J1 W d cx ls H ts vs ls' H'/\cs.length=vs.length
 call:∀d H f args v H',r.call d H f args=some (v,H')->jZ W d H f args v H'/\∀F,W.P.fns[f]? =some F->F.body≠ [.fail]
 for_:∀k cx t pt b,CXOk W cx->rJ cx t=some pt->∀d ls H it fl ls' H',r.for_ d ls H it pt (b.map (j6 k cx))=some (fl,ls',H')->∃m,FRun W d cx t b m ls H it fl ls' H'
 comp:∀k cx sc t pt ce ee,CXOk W cx->ScF cx sc pt->rJ (cx.inner sc) t=some pt->∀d ls H it j H',r.comp d ls H it pt (ce.map (cj k (cx.inner sc))) (cj k (cx.inner sc) ee) j=some H'->∃m,CRun W d (cx.inner sc) t ce ee j m ls H it H'
def cD{x:Option (α×β)}{f:α×β->Option γ}{c:γ}{G:Prop}(h:x.bind f=some c)(k:∀a b,x=some (a,b)->f (a,b)=some c->G):G:=
 aL (ct.mp h) λp h1 h2=>k p.1 p.2 h1 h2
def cJ{x:Option α}{f:α->Option γ}{c:γ}{G:Prop}(h:x.bind f=some c)(k:∀a,x=some a->f a=some c->G):G:=
 aL (ct.mp h) λp h1 h2=>k p h1 h2
def ke{x:Option α}{f:α->γ}{c:γ}{G:Prop}(h:x.map f=some c)(k:∀a,x=some a->f a=c->G):G:=
 aL (bK.mp h) λp h1 h2=>k p h1 h2
def vU{x:Option α}{f:α->γ}{g:δ}{c:γ}{H:δ}{G:γ->δ->Prop}(h:(x.map λa=>(f a,g))=some (c,H))(k:∀a,x=some a->G (f a) g):G c H:=by
 refine aL (bK.mp h) λp h1 h2=>?_
 erw [<- (aH h2).1,<- (aH h2).2]
 exact k p h1
def dt{a c:γ}{b d:δ}{G:γ->δ->Prop}(h:some (a,b)=some (c,d))(k:G a b):G c d:=by
 have:=ae h
 erw [<- (aH this).1,<- (aH this).2]
 exact k
def hO{b:Bool}{x:Option α}{a:α}(h:G1 b x=some a):b=true/\x=some a:=by
 induction b using aE
 ·exact bc h
 ·exact⟨rfl,h⟩
def rC{e:Expr}{z:Expr×List Expr×Pos}(h:Ax e=some z):e= .Call z.1 z.2.1 [] z.2.2:=by
 cases e using bD with
 | Call f a k p=>cases k using au with
  | nil=>exact ae h ▸rfl
  | cons zz zy=>exact dz h
 | _=>exact dz h
def yL{e:Expr}{z:Expr×Str×Pos}(h:FO e=some z):e= .Attribute z.1 z.2.1 z.2.2:=by
 cases e using bD with
 | Attribute f a p=>exact ae h ▸rfl
 | _=>exact dz h
def oB{e:Expr}{z:Str×Nat×Pos}(h:AY e=some z):e= .Constant (.str z.1) z.2.1 z.2.2:=by
 cases e using bD with
 | Constant f a p=>cases f using Const.casesOn with
  | str s=>exact ae h ▸rfl
  | _=>exact dz h
 | _=>exact dz h
def oK{l:List α}{z:α×α}(h:Bh l=some z):l= [z.1,z.2]:=by
 cases l using au with
 | nil=>exact dz h
 | cons a l=>cases l using au with
  | nil=>exact dz h
  | cons b l=>cases l using au with
   | nil=>exact ae h ▸rfl
   | cons zz zy=>exact dz h
def ku{l:List α}{z:α}(h:xC l=some z):l= [z]:=by
 cases l using au with
 | nil=>exact dz h
 | cons a l=>cases l using au with
  | nil=>exact ae h ▸rfl
  | cons zz zy=>exact dz h
def wq{e:Expr}{z:List (Option Expr)×List Expr×Pos}(h:BJ e=some z):e= .Dict z.1 z.2.1 z.2.2:=by
 cases e using bD with
 | Dict f a p=>exact ae h ▸rfl
 | _=>exact dz h
def vF{e:Expr}{z:Option Expr×Option Expr×Option Expr×Pos}(h:mA e=some z):e= .Slice z.1 z.2.1 z.2.2.1 z.2.2.2:=by
 cases e using bD with
 | Slice f a b p=>exact ae h ▸rfl
 | _=>exact dz h
def AC{g:Option Gv}{v:AV}(h:g.bind Gv.asVal=some v):g=some (.val v):=cJ h λg h1 h2=>by
 cases g using Gv.casesOn with
 | val v=>exact ae h2 ▸h1
 | _=>exact dz h2
def uF{e:Expr}{z:RepP}(h:KL e=some z):e= .Call (.Attribute z.x z.r z.p1) [.Constant (.str z.y) z.ky z.qy, .Constant (.str z.z) z.kz z.qz] [] z.p2:=
 cJ h λc h1 h=>cJ h λa h2 h=>cJ h λq h3 h=>cJ h λy h4 h=>cJ h λw h5 h=>by
  erw [<- ae h,rC h1,yL h2,oK h3,oB h4,oB h5];rfl
end
section
mutual
variable{k m:Nat}{x v:AV}{vs:List AV}{name:Str}{aO:Hp}
variable{W:Wd}{n:Nat}{d:Nat}{cx:CX}{ls:Ls}{H H':Hp}
set_option tactic.hygienic true in
theorem nL:∀{l:List Str} {x:Str} {i:Nat},tw x l=some i->l[i]? =some x
 | [],_,_,h=>by cases h
 | y::r,x,i,h=>by
  unfold tw at h
  split at h
  ·rename_i q
   (replace h:=ae h;subst h)
   erw [eq_of_beq q];rfl
  ·refine aL (bK.mp h) λj hj xq1=>?_;subst xq1;simpa using nL hj
def u7(IH:∀m,m<=n->Snd W (ev W.P m))(ok:CXOk W cx):∀(es:List Expr) (m:Nat),m<=n->es≠ []->∀(H:Hp) (v:AV) (H':Hp),(ev W.P m).e d ls H (jM .and (es.map (cj k cx)))=some (v,H')->TC W d cx ls H .And es v H'
 | [e],m,hm,_,_,_,_,h=>F7 (((IH m hm).e k cx e ok).ev _ _ _ _ _ h)
 | _::_::_,0,_,_,_,_,_,h=>bc h
 | e::e'::r,m+1,hm,_,_,v,H',h=>cD (show((ev W.P m).e d ls _ (cj k cx e)).bind _=_ from h) λx aq h1 h2=>cJ h2 λq h3 h4=>by
  have t:=((IH m (dg hm)).e k cx e ok).ev _ _ _ _ _ h1
  cases q using aE with
  | false=>exact dt (G:=λv H'=>TC W d cx ls _ .And (e::e'::r) v H') h4 (r6 t h3)
  | true=>exact BV t h3 (u7 IH ok (e'::r) m (dg hm) (gc _ _) _ _ _ h4)
 | [],_,_,h,_,_,_,_=>absurd rfl h
def yG(IH:∀m,m<=n->Snd W (ev W.P m))(ok:CXOk W cx):∀(es:List Expr) (m:Nat),m<=n->es≠ []->∀(H:Hp) (v:AV) (H':Hp),(ev W.P m).e d ls H (jM .or (es.map (cj k cx)))=some (v,H')->TC W d cx ls H .Or es v H'
 | [e],m,hm,_,_,_,_,h=>F7 (((IH m hm).e k cx e ok).ev _ _ _ _ _ h)
 | _::_::_,0,_,_,_,_,_,h=>bc h
 | e::e'::r,m+1,hm,_,_,v,H',h=>cD (show((ev W.P m).e d ls _ (cj k cx e)).bind _=_ from h) λx aq h1 h2=>cJ h2 λq h3 h4=>by
  have t:=((IH m (dg hm)).e k cx e ok).ev _ _ _ _ _ h1
  cases q using aE with
  | true=>exact dt (G:=λv H'=>TC W d cx ls _ .Or (e::e'::r) v H') h4 (r6 t h3)
  | false=>exact BV t h3 (yG IH ok (e'::r) m (dg hm) (gc _ _) _ _ _ h4)
 | [],_,_,h,_,_,_,_=>absurd rfl h
def tO(IH:∀m,m<=n->Snd W (ev W.P m))(ok:CXOk W cx):∀(es:List Expr) (m:Nat),m<=n->es≠ []->∀(H:Hp) (b:Bool) (H':Hp),(ev W.P m).t d ls H (jM .and (es.map (cj k cx)))=some (b,H')->I4 W d cx ls H .And es b H'
 | [e],m,hm,_,_,b,_,h=>by
  have t:=(IH m hm).t k cx e ok _ _ _ _ _ h
  cases b using aE with
  | true=>exact qX t BW
  | false=>exact mq t
 | _::_::_,0,_,_,_,_,_,h=>bc h
 | e::e'::r,m+1,hm,_,_,b,H',h=>cD (show((ev W.P m).t d ls _ (cj k cx e)).bind _=_ from h) λq aq h1 h2=>by
  have t:=(IH m (dg hm)).t k cx e ok _ _ _ _ _ h1
  cases q using aE with
  | false=>exact dt (G:=λv H'=>I4 W d cx ls _ .And (e::e'::r) v H') h2 (mq t)
  | true=>exact qX t (tO IH ok (e'::r) m (dg hm) (gc _ _) _ _ _ h2)
 | [],_,_,h,_,_,_,_=>absurd rfl h
def u9(IH:∀m,m<=n->Snd W (ev W.P m))(ok:CXOk W cx):∀(es:List Expr) (m:Nat),m<=n->es≠ []->∀(H:Hp) (b:Bool) (H':Hp),(ev W.P m).t d ls H (jM .or (es.map (cj k cx)))=some (b,H')->I4 W d cx ls H .Or es b H'
 | [e],m,hm,_,_,b,_,h=>by
  have t:=(IH m hm).t k cx e ok _ _ _ _ _ h
  cases b using aE with
  | false=>exact qX t BW
  | true=>exact mq t
 | _::_::_,0,_,_,_,_,_,h=>bc h
 | e::e'::r,m+1,hm,_,_,b,H',h=>cD (show((ev W.P m).t d ls _ (cj k cx e)).bind _=_ from h) λq aq h1 h2=>by
  have t:=(IH m (dg hm)).t k cx e ok _ _ _ _ _ h1
  cases q using aE with
  | true=>exact dt (G:=λv H'=>I4 W d cx ls _ .Or (e::e'::r) v H') h2 (mq t)
  | false=>exact qX t (u9 IH ok (e'::r) m (dg hm) (gc _ _) _ _ _ h2)
 | [],_,_,h,_,_,_,_=>absurd rfl h
def KS(h:j9 H x m=true):m<=10:=by
 cases x using AV.casesOn with
 | ref k=>
  replace h:lE m H[k]? =true:=h;cases hc:H[k]? with
  | none=>rw[hc]at h;exact cq h
  | some c=>
   rw[hc]at h
   cases c using Cell.casesOn with
   | list zz=>exact aj (ab h) (ab rfl)
   | dict zz=>erw [aV h];exact ab rfl
   | n zz zy=>exact cq h
 | int zz=>erw [aV h];exact ab rfl
 | str zz=>exact ab (ag.mp h).2
 | _=>exact cq h
def Ee(W1:W.Ok){A:Around}{B:BgT}{ρ:List Addr}{F:Raws}{s:Shared}{u:Value}{f:Nat}{pl:Sem Bool}{Q:Value×List Value->Shared->Prop}(hn:W.nm[m]? =some name)(hf:kO W.P H x m=some f)(hc:jZ W d aO f (x::vs) v H')(hB:gu W B)(hR:RM W B ρ F H s.heap)(hv:VR W B ρ x u)
  (k:∀f,(∀h,(∀b o,W.base.get? b=some o->h.get? b=some o)->lO W.M h f)->Ge W d aO (x::vs) (λus=>call f us) v H'->Q (f,[u]) s):wpAny W.M A (getMethod u name pl) Q fh s:=by
 cases x using AV.casesOn with
 | ref j=>
  refine aL (mT hv) λa e ha=>?_;rw[e]at k |-
  refine cJ (show(H[j]?).bind (xI W.P m)=some f from hf) λc hcell h=>?_
  cases c using Cell.casesOn with
  | n c fs=>
   replace h:(match jw m fs with | none=>(W.P.clss[c]?).bind λC=>C.meths.lookup m | some zz=>none)=some f:=h;cases hnone:jw m fs with
   | some zz=>rw[hnone]at h;exact bc h
   | none=>
    rw[hnone]at h;refine w1 (hR.instA ha hcell) λdx C es m' e2 e3 e4 e5 zz=>?_;refine aL (W1.cl.meth _ _ _ _ _ h e2 hn) λfa hfa hB'=>?_;simp only[Br,cv,beq_iff_eq]at hB';obtain⟨xq2,m4⟩:=hB';obtain⟨xq3,m3⟩:=xq2;obtain⟨m1,m2⟩:=xq3;refine aL (hc.op W1.top) λa'' ha' op=>?_;rw[<- ae (hfa.symm.trans ha')]at op;have I:InstAt s.heap a (instObj C dx) C (some (dictOf es m')):=⟨e3,rfl,rfl,e4⟩;refine method_fn (W1.top.K (hR.base hB)) I (plainGet_of m1).1 (plainGet_of m1).2 m2 (beq_iff_eq.mp m3) ?_ (k _ (th W1.top m4) op);unfold shadowIn
    try dsimp only
    erw [lookIn_dict,e5.getNone W1.cl hn hnone];rfl
  | _=>exact bc h
 | _=>exact bc hf
def sZ(W1:W.Ok){o:Expr}{apos pos:Pos}{args:List Expr}{aq:Hp}(hg:eZ o apos pos args=true)(hn:W.nm[m]? =some name)(h:TE W d cx ls H o x aq)(h':TL W d cx ls aq args vs aO)
  (hm:(∃f,kO W.P aq x m=some f/\jZ W d aO f (x::vs) v H')\/(j9 aq x m=true/\kM x m vs aO=some (v,H'))):TE W d cx ls H (.Call (.Attribute o name apos) args [] pos) v H':=by
 refine IZ (fv:=λzz zy zx=>True) hg h h' λA B ρ F s u pl Q hA hB hR hv k=>?_;rcases hm with⟨f,hf,hc⟩ | ⟨hp,hmv⟩
 ·exact Ee W1 hn hf hc hB hR hv k
 ·erw [(show name=Bq m from ae (hn.symm.trans (W1.cl.nmB m (KS hp))))]
  exact E0 W1.top hp hA hB hR hv (k _ (λh zz=>fT _) (Bk W1.cl hmv))
end
end
section
mutual
variable{a b e c:Expr}{k:Nat}{lo:Option Expr}{es:List Expr}
variable{W:Wd}{r:Ev}{cx:CX}
def gz:RE W (dO W.P r) cx e .fail:=⟨λzz zy zx zw zv h=>bc h,λzz zy zx zw h=>bc h,λzz zy zx zw zv zu zt h=>bc h,λzz zy zx zw zv zu h=>bc h,λzz zy zx zw zv zu h=>bc h⟩
def kG{α:Type}{o:Option α}{k:α->E}(h:∀a,o=some a->RE W (dO W.P r) cx e (k a)):RE W (dO W.P r) cx e (pG o k):=by
 cases o using bb with
 | none=>exact gz
 | some a=>exact h a rfl
def lB{b:Bool}{c:E}(h:b=true->RE W (dO W.P r) cx e c):RE W (dO W.P r) cx e (wV b c):=by
 cases b using aE with
 | false=>exact gz
 | true=>exact h rfl
def Kv{c:Const}{p:Pos}:RE W (dO W.P r) cx (.Constant c k p) (Jz c):=by
 induction c using Const.casesOn <;> first
  | exact gz
  | exact .plain (λd ls H v H' h=>dt (G:=λv H'=>TE W d cx ls H _ v H') h (by first | exact IY | exact I2 | exact My | exact Mw)) (λzz zy=>rfl) rfl
def GL(W1:W.Ok)(ok:CXOk W cx){x:Str}{p:Pos}:RE W (dO W.P r) cx (.Name x p) (nv cx x):=by
 unfold nv;cases hx:cx.slot x with
 | some i=>
  refine .plain (λd ls H v H' h=>?_) (λzz zy=>rfl) rfl;replace h:(match ls[i]? with | some (some v)=>some (v,H) | _=>none)=some (v,H'):=h;cases hl:ls[i]? with
  | none=>rw[hl]at h;exact bc h
  | some o=>cases o using bb with
   | none=>rw[hl]at h;exact bc h
   | some u=>rw[hl]at h;exact dt (G:=λv H'=>TE W d cx ls H _ v H') h (Mu hx hl)
 | none=>
  refine kG λu hu=> .plain (λd ls H v H' h=>dt (G:=λv H'=>TE W d cx ls H _ v H') h ?_) (λzz zy=>rfl) rfl;refine kE (lG ok (AC hu)) λg1 g2 g3=>?_;refine aL (W1.glob _ _ g3) λw g4 g5=>?_;exact λA B ρ F env s hA hB hE hF hR=>kx W1.top hE (kL g2).1 g4 g1 (hR.base hB) (d0 B ρ (.refl B ρ) hR (.refl s) (g5 B ρ hB))
def KB{ca cb:E}{op:Operator}{o:O2}{p:Pos}(ha:RE W r.e cx a ca)(hb:RE W r.e cx b cb)(ho:Pu op=some o):RE W (dO W.P r) cx (.BinOp a op b p) (.o o ca cb):=
 .plain (λd ls H v H' h=>cD h λx aq h1 h=>cD h λy aO h2 h3=>MD (ha.ev _ _ _ _ _ h1) (hb.ev _ _ _ _ _ h2) (KZ ho h3)) (λzz zy=>rfl) rfl
def Kz(W1:W.Ok)(ok:CXOk W cx){op:Operator}{p:Pos}{z:EscP}{cx':E}(hz:Iq cx.nm a op b=some z)(hx:RE W r.e cx z.c.x cx'):RE W (dO W.P r) cx (.BinOp a op b p) (.esc z.p.1.cps.toList cx' z.c1 z.c.z.cps.toList z.c2 z.b.z.cps.toList):=by
 refine .plain (λd ls H v H' h=>cD h λx aq h1 h=>ke h λw h2 h3=>?_) (λzz zy=>rfl) rfl
 erw [<- (aH h3).1,<- (aH h3).2]
 have te:=hx.ev _ _ _ _ _ h1;clear h h1 h3 hx;refine cJ hz λs1 g1 hz=>?_;obtain⟨g2,hz⟩:=hO hz;refine cJ hz λy g3 hz=>cJ hz λq g4 hz=>cJ hz λc1 g5 hz=>cJ hz λc2 g6 hz=>?_;obtain⟨g7,g8⟩:=hO hz;have e:=ae g8;subst e;simp only[cv,beq_iff_eq]at g7;obtain⟨xq1,m4⟩:=g7;obtain⟨xq2,m3⟩:=xq1;obtain⟨xq3,m2⟩:=xq2;obtain⟨m0,m1⟩:=xq3;have nm8:=W1.cl.nmB 8 (ab rfl);rw[ok.nm,nm8]at m1 m2;have ho:op= .Add:=by induction op using Operator.casesOn <;> first | rfl | exact cq g2
 erw [oB g1,ho,uF g3,uF g4]
 exact MB (ae m1).symm (ae m2).symm (beq_iff_eq.mpr m3) (beq_iff_eq.mpr m4) m0 (Str.ext' (q8 (ku g5))) (Str.ext' (q8 (ku g6))) te h2
def DQ(W1:W.Ok)(ok:CXOk W cx){op:Operator}{p:Pos}{f:Expr->E}(I:∀e,RE W r.e cx e (f e)):RE W (dO W.P r) cx (.BinOp a op b p) (qd f cx.nm a op b):=by
 unfold qd;cases hz:Iq cx.nm a op b with
 | some z=>exact Kz W1 ok hz (I _)
 | none=>exact kG λo ho=>KB (I _) (I _) ho
def Ku{ca:E}{p:Pos}(ha:RE W r.e cx a ca):RE W (dO W.P r) cx (.UnaryOp .USub a p) (.neg ca):=
 .plain (λd ls H v H' h=>cD h λx aq h1 h=>by
  cases x using AV.casesOn with
  | int i=>exact dt (G:=λv H'=>TE W d cx ls H _ v H') h (J0 (ha.ev _ _ _ _ _ h1) Lf)
  | _=>exact bc h) (λzz zy=>rfl) rfl
def Ks{ca:E}{p:Pos}(ha:RE W r.e cx a ca):RE W (dO W.P r) cx (.UnaryOp .Not a p) (.not ca):=
 .plain (λd ls H v H' h=>cD h λx aq h1 h=>vU (f:=λb=>AV.bool (!b)) (G:=λv H'=>TE W d cx ls H _ v H') h λb h2=>J0 (ha.ev _ _ _ _ _ h1) (Lc h2)) (λzz zy=>rfl) rfl
def Nt{op:UnaryOp}{p:Pos}{f:Expr->E}(I:∀e,RE W r.e cx e (f e)):RE W (dO W.P r) cx (.UnaryOp op a p) (Fq f op a):=by
 cases op using UnaryOp.casesOn with
 | USub=>exact Ku (I _)
 | Not=>exact Ks (I _)
 | _=>exact gz
def KA(W1:W.Ok){ca cb:E}{o:CmpOp}{p:Pos}(ha:RE W r.e cx a ca)(hb:RE W r.e cx b cb)(hm:cY o b=false):RE W (dO W.P r) cx (.Compare a [o] [b] p) (.j (JU o) ca cb) where
 ev d ls H v H' h:=cD h λx aq h1 h=>cD h λy aO h2 h=>vU (f:=AV.bool) (G:=λv H'=>TE W d cx ls H _ v H') h λq h3=>MC (ha.ev _ _ _ _ _ h1) (hb.ev _ _ _ _ _ h2) (mZ W1.objs h3) hm
 fs _ _ _ _ _ _ _:=rfl
 tb _ d ls H v H' q h ht:=cD h λx aq h1 h=>cD h λy aO h2 h=>ke h λq' h3 h4=>by
  cases h4;(replace ht:=ae ht;subst ht)
  exact MH (ha.ev _ _ _ _ _ h1) (hb.ev _ _ _ _ _ h2) (mZ W1.objs h3) Dx hm
 lc h:=cq h
 tv h:=cq h
def DM(W1:W.Ok){ca cb cc:E}{o o':CmpOp}{p:Pos}(ha:RE W r.e cx a ca)(hb:RE W r.e cx b cb)(hc:RE W r.e cx c cc)(hm:cY o b=false)(hm':cY o' c=false):RE W (dO W.P r) cx (.Compare a [o,o'] [b,c] p) (.chain ca (JU o) cb (JU o') cc) where
 ev d ls H v H' h:=cD h λx aq h1 h=>cD h λy aO h2 h=>cJ h λq h3 h=>by
  cases q using aE with
  | false=>exact dt (G:=λv H'=>TE W d cx ls H _ v H') h (ID (ha.ev _ _ _ _ _ h1) (hb.ev _ _ _ _ _ h2) (mZ W1.objs h3) hm hm' p)
  | true=>exact cD h λz dK h4 h=>vU (f:=AV.bool) (G:=λv H'=>TE W d cx ls H _ v H') h λq h5=>Rb (v:= .none) (ha.ev _ _ _ _ _ h1) (hb.ev _ _ _ _ _ h2) (mZ W1.objs h3) (hc.ev _ _ _ _ _ h4) (mZ W1.objs h5) hm hm' p
 fs _ _ _ _ _ _ _:=rfl
 tb _ d ls H v H' q h ht:=cD h λx aq h1 h=>cD h λy aO h2 h=>cJ h λq' h3 h=>by
  cases q' using aE with
  | false=>cases h;(replace ht:=ae ht;subst ht);exact Gy (ha.ev _ _ _ _ _ h1) (hb.ev _ _ _ _ _ h2) (mZ W1.objs h3) hm hm' p
  | true=>
   refine cD h λz dK h4 h=>ke h λq h5 h6=>?_;cases h6;(replace ht:=ae ht;subst ht)
   exact Qc (v:= .none) (ha.ev _ _ _ _ _ h1) (hb.ev _ _ _ _ _ h2) (mZ W1.objs h3) (hc.ev _ _ _ _ _ h4) (mZ W1.objs h5) hm hm' p
 lc h:=cq h
 tv h:=cq h
def En{b:Bool}(h:(!b)=true):b=false:=by
 induction b using aE
 ·rfl
 ·exact cq h
def zf(W1:W.Ok){ops:List CmpOp}{bs:List Expr}{p:Pos}{f:Expr->E}(I:∀e,RE W r.e cx e (f e)):RE W (dO W.P r) cx (.Compare a ops bs p) (wu f a ops bs):=by
 cases ops using au with
 | nil=>exact gz
 | cons o ops=>cases bs using au with
  | nil=>exact gz
  | cons b bs=>cases ops using au with
   | nil=>cases bs using au with
    | nil=>exact lB λh=>KA W1 (I _) (I _) (En h)
    | cons zz zy=>exact gz
   | cons o' ops=>cases bs using au with
    | nil=>exact gz
    | cons c bs=>cases ops using au with
     | cons zz zy=>exact gz
     | nil=>cases bs using au with
      | cons zz zy=>exact gz
      | nil=>exact lB λh=>lB λh'=>DM W1 (I _) (I _) (I _) (En h) (En h')
def Kx{cc ca cb:E}{p:Pos}(hc:∀d ls H q H',r.t d ls H cc=some (q,H')->TB W d cx ls H c q H')(ha:RE W r.e cx a ca)(hb:RE W r.e cx b cb):RE W (dO W.P r) cx (.IfExp c a b p) (.ife cc ca cb):=
 .plain (λd ls H v H' h=>cD h λq aq h1 h=>Mz (hc _ _ _ _ _ h1) (by
  cases q using aE with
  | true=>exact ha.ev _ _ _ _ _ h
  | false=>exact hb.ev _ _ _ _ _ h)) (λzz zy=>rfl) rfl
def GR(W1:W.Ok)(ok:CXOk W cx){ca:E}{g:Str}{i:Nat}{p:Pos}(hp:iU a=true)(hi:tw g cx.nm=some i)(ha:RE W r.e cx a ca):RE W (dO W.P r) cx (.Attribute a g p) (.aT ca i):=
 .plain (λd ls H v H' h=>cD h λx aq h1 h=>vU (f:=id) (G:=λv H'=>TE W d cx ls H _ v H') h λw h2=>I3 W1.top W1.cl hp (ok.nm ▸nL hi) (ha.ev _ _ _ _ _ h1) h2) (λzz zy=>rfl) rfl
def Ky{ca cb:E}{p:Pos}(hs:pM b=false)(ha:RE W r.e cx a ca)(hb:RE W r.e cx b cb):RE W (dO W.P r) cx (.Subscript a b p) (.idx ca cb):=
 .plain (λd ls H v H' h=>cD h λx aq h1 h=>cD h λy aO h2 h=>vU (f:=id) (G:=λv H'=>TE W d cx ls H _ v H') h λw h3=>MA (ha.ev _ _ _ _ _ h1) (hb.ev _ _ _ _ _ h2) hs h3) (λzz zy=>rfl) rfl
def xA{f:Expr->E}(I:∀e,RE W r.e cx e (f e)){d:Nat}{ls:Ls}{H H':Hp}{l:Option AV}(h:MT (r.e d ls H) H (lo.map f)=some (l,H')):TO W d cx ls H lo l H':=by
 cases lo using bb with
 | none=>exact dt (G:=λl H'=>TO W d cx ls H none l H') h .none
 | some e=>
  refine ke h λp h1 h2=>?_
  erw [<- (aH h2).1,<- (aH h2).2]
  exact .some ((I e).ev _ _ _ _ _ h1)
def DK{hi:Option Expr}{q p:Pos}{f:Expr->E}(I:∀e,RE W r.e cx e (f e)):RE W (dO W.P r) cx (.Subscript a (.Slice lo hi none q) p) (.slice (f a) (lo.map f) (hi.map f)):=
 .plain (λd ls H v H' h=>cD h λx aq h1 h=>cD h λy aO h2 h=>cD h λz dK h3 h=>F5 ((I a).ev _ _ _ _ _ h1) (xA I h2) (xA I h3) h) (λzz zy=>rfl) rfl
def KC{p:Pos}{f:Expr->E}(I:∀e,RE W r.e cx e (f e)):RE W (dO W.P r) cx (.Subscript a b p) (qc f a b):=by
 unfold qc;cases hz:mA b with
 | some z=>
  refine lB λhn=>?_;obtain⟨lo,hi,st,q⟩:=z
  erw [vF hz]
  cases st using bb with
  | none=>exact DK I
  | some zz=>exact cq hn
 | none=>exact Ky (by induction b using bD <;> first | rfl | exact nomatch hz) (I _) (I _)
def GO{cs:List E}{p:Pos}(hs:∀d ls H vs H',r.es d ls H cs=some (vs,H')->TL W d cx ls H es vs H'):RE W (dO W.P r) cx (.List es p) (.list cs):=
 .plain (λd ls H v H' h=>cD h λvs aq h1 h=>kA h λhr h=>dt (G:=λv H'=>TE W d cx ls H _ v H') h (I0 (hs _ _ _ _ _ h1) (fg hr))) (λzz zy=>rfl) rfl
def Kq{cs:List E}{p:Pos}(hs:∀d ls H vs H',r.es d ls H cs=some (vs,H')->TL W d cx ls H es vs H'):RE W (dO W.P r) cx (.Tuple es k p) (.U cs) where
 ev d ls H v H' h:=cD h λvs aq h1 h=>kA h λhr h=>dt (G:=λv H'=>TE W d cx ls H _ v H') h (Mv (hs _ _ _ _ _ h1) (fg hr))
 fs _ _ _ _ _ _ _:=rfl
 tb h:=cq h
 lc h:=cq h
 tv _ d ls H v H' h:=cD h λvs aq h1 h=>kA h λhr h=>⟨vs,(aH (ae h)).1.symm⟩
def DL{ks:List (Option Expr)}{vs:List Expr}{p:Pos}(h:(ks.isEmpty && vs.isEmpty)=true):RE W (dO W.P r) cx (.Dict ks vs p) .dict0:=by
 cases ks using au with
 | cons zz zy=>exact cq h
 | nil=>cases vs using au with
  | cons zz zy=>exact cq h
  | nil=>exact .plain (λd ls H v H' h=>dt (G:=λv H'=>TE W d cx ls H _ v H') h F6) (λzz zy=>rfl) rfl
end
end
section
mutual
variable{args ifs:List Expr}{g x m:Str}{gp apos:Pos}{i k:Nat}{o e elt t:Expr}{sc:Scope}{pt:PT}
variable{W:Wd}{r:Ev}{cx:CX}
noncomputable abbrev Dd(W:Wd)(r:Ev)(cx:CX)(es:List Expr)(cs:List E):Prop:= ∀d ls H vs H',r.es d ls H cs=some (vs,H')->TL W d cx ls H es vs H'
noncomputable abbrev qn(W:Wd)(r:Ev):Prop:= ∀d H f args v H',r.call d H f args=some (v,H')->jZ W d H f args v H'/\∀F,W.P.fns[f]? =some F->F.body≠ [.fail]
def Nu(W1:W.Ok)(ok:CXOk W cx){p:Pos}{cs:List E}(C:qn W r)(hg:cx.gv g=some (.fn i))(ha:args.all cu=true)(hs:Dd W r cx args cs):RE W (dO W.P r) cx (.Call (.Name g gp) args [] p) (.call i cs):=
 .plain (λd ls H v H' h=>cD h λvs aq h1 h=>by
  refine kE (lG ok hg) λg1 g2 g3=>?_;refine dq (W1.glob _ _ g3) λa g4 g5 g6=>?_;refine aL ((C _ _ _ _ _ _ h).1.op W1.top) λa' ha' op=>?_;have e:=ae (g4.symm.trans ha');rw[<- e]at op;exact wF W1.top g2 g1 g5 ha (th W1.top g6) (hs _ _ _ _ _ h1) op) (λzz zy=>rfl) rfl
def Kt(W1:W.Ok)(ok:CXOk W cx){p:Pos}{cs:List E}(C:qn W r)(hg:cx.gv g=some (.cls i))(ha:args.all cu=true)(hs:Dd W r cx args cs):RE W (dO W.P r) cx (.Call (.Name g gp) args [] p) (.new i cs):=
 .plain (λd ls H v H' h=>cD h λvs aq h1 h=>cJ h λCc h2 h=>cD h λx aO h3 h=>kA h λhx h=>by
  have hx:x= .none:=by induction x using AV.casesOn <;> first | rfl | exact cq hx
  rw[hx]at h3;refine kE (lG ok hg) λg1 g2 g3=>?_;refine dq (W1.glob _ _ g3) λa g4 g5 g6=>?_;have co:=C _ _ _ _ _ _ h3;exact dt (G:=λv H'=>TE W d cx ls H _ v H') h (wF W1.top g2 g1 g5 ha (th W1.top g6) (hs _ _ _ _ _ h1) (jZ.new W1 h2 g4 co.1 co.2))) (λzz zy=>rfl) rfl
def Nv(W1:W.Ok)(ok:CXOk W cx){p:Pos}{cs:List E}{b:BI}(hg:cx.gv g=some (.bi b))(ha:args.all cu=true)(hs:Dd W r cx args cs):RE W (dO W.P r) cx (.Call (.Name g gp) args [] p) (.bi b cs):=
 .plain (λd ls H v H' h=>cD h λvs aq h1 h=>by
  refine kE (lG ok hg) λg1 g2 g3=>?_;exact wF W1.top g2 g1 (W1.glob _ _ g3) ha (λh zz=>yJ b) (hs _ _ _ _ _ h1) (NQ h)) (λzz zy=>rfl) rfl
def lF(h:jH e=some x):∃p,e= .Name x p:=by
 induction e using bD <;> first | exact bc h | exact⟨_,by erw [ae h];rfl⟩
def Ob(W1:W.Ok){g:Gv}{k:IK}(hk:g.asIK=some k)(h:MS W x g):∃kv,Gl W x kv/\PY W k kv:=by
 cases g using Gv.casesOn with
 | cls c=>refine dq h λC q4 q5 zz=>?_;erw [<- ae hk];exact⟨_,q5,C,q4,rfl⟩
 | bi b=>
  cases b using BI.casesOn with
  | int=>erw [<- ae hk];exact bH _ h rfl
  | _=>exact bc hk
 | ty t=>
  erw [<- ae hk]
  cases t using IK.casesOn with
  | bool=>exact bH _ h rfl
  | int=>exact bH _ h rfl
  | cls c=>exact h.elim
 | _=>exact bc hk
def Kw(W1:W.Ok)(ok:CXOk W cx){p xp:Pos}{a:Expr}{ca:E}{gx:Gv}{k:IK}(hg:cx.gv g=some .isinst)(hx:cx.gv x=some gx)(hk:gx.asIK=some k)(hs:cu a=true)(ha:RE W r.e cx a ca):RE W (dO W.P r) cx (.Call (.Name g gp) [a, .Name x xp] [] p) (.h ca k):=
 .plain (λd ls H v H' h=>cD h λu aq h1 h=>vU (f:=AV.bool) (G:=λv H'=>TE W d cx ls H _ v H') h λq h2=>by
  refine kE (lG ok hg) λg1 g2 g3=>?_;refine kE (lG ok hx) λq1 q2 q3=>?_;refine aL (Ob W1 hk (W1.glob _ _ q3)) λkv q4 q5=>?_;exact Mx W1.top W1.ci g2 q2 g1 q1 (W1.glob _ _ g3) q4 q5 hs (ha.ev _ _ _ _ _ h1) h2) (λzz zy=>rfl) rfl
def vi(h:kU args=true):args.all cu=true:=(ag.mp h).1
def uL{pos:Pos}(h:eZ o apos pos args=true):args.all cu=true:=vi (ag.mp h).2
def DN(W1:W.Ok)(ok:CXOk W cx){p:Pos}{f:Expr->E}(I:∀e,RE W r.e cx e (f e))(C:qn W r)(hs:args.all cu=true->Dd W r cx args (args.map f))(ha:kU args=true){v:Gv}(hg:cx.gv g=some v):
  RE W (dO W.P r) cx (.Call (.Name g gp) args [] p) (Fu f cx args v):=by
 have st:=vi ha
 cases v using Gv.casesOn with
 | fn i=>exact Nu W1 ok C hg st (hs st)
 | cls i=>exact Kt W1 ok C hg st (hs st)
 | bi b=>exact Nv W1 ok hg st (hs st)
 | isinst=>
  refine kG λq hq=>kG λx hx=>kG λk hk=>cJ hk λgx h1 h2=>?_;rw[oK hq]at st |-
  obtain⟨xp,e⟩:=lF hx
  erw [e]
  exact Kw W1 ok hg h1 h2 (ag.mp st).1 (I _)
 | _=>exact gz
def oq{cx:CX}{q:Gv->Bool}{z:RevP}(h:ny cx q e=some z):e= .Call (.Name z.g z.gp) [z.x] [] z.p/\cu z.x=true/\∃v,cx.gv z.g=some v/\q v=true:=
 cJ h λc h1 h=>by
  have e:=rC h1;obtain⟨c1,c2,c3⟩:=c
  erw [e]
  clear e h1
  cases c1 using bD with
  | Name g gp=>
   refine cJ h λx h2 h=>cJ h λv h3 h=>?_;obtain⟨h4,h5⟩:=hO h
   erw [<- ae h5]
   obtain⟨h6,h7⟩:=ag.mp h4;exact⟨by erw [ku h2];rfl,h7,v,h3,h6⟩
  | _=>exact bc h
def EM{v:Gv}(h:v.isRev=true):v= .rev:=by induction v using Gv.casesOn <;> first | rfl | exact cq h
def Cz{v:Gv}(h:v.isEnum=true):v= .enum:=by induction v using Gv.casesOn <;> first | rfl | exact cq h
def Ao{z:DgetP}(h:BK o i args=some z):o= .Dict z.ks z.vs z.p/\args= [z.k,z.d]/\litPairs z.ks z.vs=some z.D/\CZ z.D=some z.t/\
  (i==2 && intKeyed z.D && decide (intKeysOf z.D).Nodup && z.ks.all (·.isSome) && z.ks.length==z.vs.length && cf z.ks.length 16 && !z.ks.isEmpty)=true:=
 cJ h λs1 g1 h=>cJ h λq g2 h=>cJ h λD g3 h=>cJ h λt g4 h=>by
  obtain⟨g5,g6⟩:=hO h
  erw [<- ae g6]
  exact v9 (wq g1) (oK g2) g3 g4 g5
def Cu{α:Type}{l:List α}(h:(!l.isEmpty)=true):l≠ []:=λe=>by rw[e]at h;exact cq h
def GQ(W1:W.Ok){o k dv:Expr}{p:Pos}{ck cd:E}{ks:List (Option Expr)}{vs:List Expr}{kp:Pos}{D:List (PyData×PyData)}{t:List (Int×List Nat)}(hg:eZ (.Dict ks vs kp) apos p [k,dv]=true)(hn:W.nm[i]? =some m)
  (g3:litPairs ks vs=some D)(g4:CZ D=some t)(g5:(i==2 && intKeyed D && decide (intKeysOf D).Nodup && ks.all (·.isSome) && ks.length==vs.length && cf ks.length 16 && !ks.isEmpty)=true)(hk:RE W r.e cx k ck)(hd:RE W r.e cx dv cd):
  RE W (dO W.P r) cx (.Call (.Attribute (.Dict ks vs kp) m apos) [k,dv] [] p) (.dget t ck cd):=by
 refine .plain (λd ls H v H' h=>cD h λx aq h1 h=>cD h λy aO h2 h=>?_) (λzz zy=>rfl) rfl;have t1:=hk.ev _ _ _ _ _ h1;have t2:=hd.ev _ _ _ _ _ h2;clear h1 h2 hk hd
 cases x using AV.casesOn with
 | int j=>
  cases y using AV.casesOn with
  | str y=>
   refine dt (G:=λv H'=>TE W d cx ls H _ v H') h ?_;clear h;obtain⟨g5,c7⟩:=ag.mp g5;obtain⟨g5,c6⟩:=ag.mp g5;obtain⟨g5,c5⟩:=ag.mp g5;obtain⟨g5,c4⟩:=ag.mp g5;obtain⟨g5,c3⟩:=ag.mp g5;obtain⟨c1,c2⟩:=ag.mp g5;rw[beq_iff_eq.mp c1]at hn;have st:=uL hg
   erw [(show m="get" from ae (hn.symm.trans (W1.cl.nmB 2 (ab rfl))))]
   exact I1 W1.cl hg g3 g4 c2 (of_decide_eq_true c3) c4 (beq_iff_eq.mp c5) (yV (cL.mp c6)) (Cu c7) (wD (ag.mp st).1 t1 (wD (ag.mp (ag.mp st).2).1 t2 F4))
  | _=>exact bc h
 | _=>exact bc h
def ze(W1:W.Ok)(ok:CXOk W cx){x:Expr}{p p':Pos}{co cx':E}(hg:eZ o apos p [.Call (.Name g gp) [x] [] p']=true)(hn:W.nm[i]? =some m)(hi:i=6)(hx:cu x=true)(g4:cx.gv g=some .rev)(ho:RE W r.e cx o co)(hxx:RE W r.e cx x cx'):
  RE W (dO W.P r) cx (.Call (.Attribute o m apos) [.Call (.Name g gp) [x] [] p'] [] p) (.joinrev co cx'):=by
 refine .plain (λd ls H v H' h=>cD h λx aq h1 h=>cD h λy aO h2 h=>?_) (λzz zy=>rfl) rfl;have t1:=ho.ev _ _ _ _ _ h1;have t2:=hxx.ev _ _ _ _ _ h2;clear h1 h2 ho hxx
 cases x using AV.casesOn with
 | str s=>
  cases y using AV.casesOn with
  | ref k=>
   refine cJ (show(aD aO k).bind _=_ from h) λvs h3 h=>vU (f:=id) (G:=λv H'=>TE W d cx ls H _ v H') h λw h4=>?_;rw[hi]at hn;refine kE (lG ok g4) λq1 q2 q3=>?_
   erw [(show m="join" from ae (hn.symm.trans (W1.cl.nmB 6 (ab rfl))))]
   exact AG W1.top hg hx q2 q1 (W1.glob _ _ q3) t1 t2 h3 h4
  | _=>exact bc h
 | _=>exact bc h
def GN(W1:W.Ok)(ok:CXOk W cx){p:Pos}{co:E}{cs:List E}(C:qn W r)(hg:eZ o apos p args=true)(hn:W.nm[i]? =some m)(ho:RE W r.e cx o co)(hs:Dd W r cx args cs):
  RE W (dO W.P r) cx (.Call (.Attribute o m apos) args [] p) (.meth co i cs):=
 .plain (λd ls H v H' h=>cD h λx aq h1 h=>by
  have t:=ho.ev _ _ _ _ _ h1
  try dsimp only at h
  cases hf:kO W.P aq x i with
  | some f=>
   rw[hf]at h;exact cD h λvs aO h2 h=>sZ W1 hg hn t (hs _ _ _ _ _ h2) (.inl (bH f hf ((C _ _ _ _ _ _ h).1)))
  | none=>
   rw[hf]at h;exact kA h λhp h=>cD h λvs aO h2 h=>sZ W1 hg hn t (hs _ _ _ _ _ h2) (.inr ⟨hp,h⟩)) (λzz zy=>rfl) rfl
def GS(W1:W.Ok)(ok:CXOk W cx){g:Expr}{p:Pos}{f:Expr->E}(I:∀e,RE W r.e cx e (f e))(C:qn W r)(hs:args.all cu=true->Dd W r cx args (args.map f)):RE W (dO W.P r) cx (.Call g args [] p) (tM f cx g args p):=by
 cases g using bD with
 | Name g gp=>exact lB λha=>kG λv hg=>DN W1 ok I C hs ha hg
 | Attribute o m apos=>
  refine lB λhg=>kG λi hi=>?_;have hn:W.nm[i]? =some m:=ok.nm ▸nL hi;unfold Fs;cases hz:BK o i args with
  | some z=>
   refine P8 (Ao hz) λe1 e2 g3 g4 g5=>?_;rw[e1,e2]at hg |-
   exact GQ W1 (o:=o) hg hn g3 g4 g5 (I _) (I _)
  | none=>
   try dsimp only
   cases hz:KI cx i args with
   | some z=>
    refine cJ hz λa g1 hz=>?_;obtain⟨g2,hz⟩:=hO hz;obtain⟨e,g3,gv,g4,g5⟩:=oq hz;rw[EM g5]at g4;rw[ku g1,e]at hg |-
    exact ze W1 ok hg hn (beq_iff_eq.mp g2) g3 g4 (I _) (I _)
   | none=>exact GN W1 ok C hg hn (I _) (hs (uL hg))
 | _=>exact gz
def yA{cs:List E}{c:Option E}{g:Expr->E}(h:Ar (ifs.map g)=some c):∃ce:Option Expr,c=ce.map g/\((ifs= []/\ce=none)\/∃e,ifs= [e]/\ce=some e):=by
 cases ifs using au with
 | nil=>exact bH none ((ae h).symm) (.inl ⟨rfl,rfl⟩)
 | cons e ifs=>cases ifs using au with
  | nil=>exact bH (some e) ((ae h).symm) (.inr (bH e rfl rfl))
  | cons zz zy=>exact bc h
noncomputable abbrev B1(W:Wd)(r:Ev):Prop:= ∀k cx sc t pt ce ee,CXOk W cx->ScF cx sc pt->rJ (cx.inner sc) t=some pt->∀d ls H it j H',r.comp d ls H it pt (ce.map (cj k (cx.inner sc))) (cj k (cx.inner sc) ee) j=some H'->∃m,CRun W d (cx.inner sc) t ce ee j m ls H it H'
def AZ(W1:W.Ok)(ok:CXOk W cx)(CC:B1 W r){it:Expr}{pos:Pos}{c:Option E}{q:Bool}{ci:E}(hpt:rJ (cx.inner sc) t=some pt)(hc:Ar (ifs.map (cj k (cx.inner sc)))=some c)(hs:G0 cx sc pt=true)(hq:q=true->hV t=true)
  (hset:∀d ls H x,r.e d ls H ci=some x->∀env x,fJ it env x=pure x)
  (hsrc:∀d ls H x aq i,r.e d ls H ci=some (x,aq)->sF q aq x=some i->MJ W d cx ls H it q i aq):
  RE W (dO W.P r) cx (.ListComp elt [⟨t,it,ifs,0⟩] sc pos) (.comp (cj k (cx.inner sc) elt) pt ci q c):=by
 have key:∀d ls H v H',dO W.P r d ls H (.comp (cj k (cx.inner sc) elt) pt ci q c)=some (v,H')->Tr W d cx ls H H' elt [⟨t,it,ifs,0⟩] sc v/\TE W d cx ls H (.ListComp elt [⟨t,it,ifs,0⟩] sc pos) v H':=by
  intro d ls H v H' h
  replace h:(match eV ls pt with | false=>none | true=>(r.e d ls H ci).bind fun(x,H)=>(sF q H x).bind λit=>(r.comp d ls (H++ [.list []]) it pt c (cj k (cx.inner sc) elt) H.length).map λH'=>(AV.ref H.length,H'))=some (v,H'):=h
  cases hf:eV ls pt with
  | false=>rw[hf]at h;exact bc h
  | true=>
   rw[hf]at h
   refine cD h λx aq h1 h=>?_
   refine cJ h λi hi h=>ke h λaO h2 h3=>?_
   erw [<- (aH h3).1,<- (aH h3).2]
   refine aL (yA (cs:= []) hc) λce hce he=>?_
   rw[hce]at h2
   obtain⟨m,hr⟩:=CC k cx sc t pt ce elt ok (qx hs) hpt _ _ _ _ _ _ h2
   have sr:=hsrc _ _ _ _ _ _ h1 hi
   exact⟨⟨t,it,ifs,pt,q,aq,i,m,rfl,qx hs,hset _ _ _ _ h1,hq,rfl,hf,sr,ce,he,hr⟩,BU W1.cl ok (qx hs) he hq (hset _ _ _ _ h1) hf sr hr⟩
 exact⟨λd ls H v H' h=>(key d ls H v H' h).2,λzz zy zx zw zv zu zt=>rfl,λh=>cq h,λzz d ls H v H' h=>(QF _ _ _ _ rfl ((key d ls H v H' h).1)),λh=>cq h⟩
def Eb{cx:CX}(h:rJ cx t=some pt)(hm:pt.isMany=true):hV t=true:=by
 cases t using bD with
 | Name x p=>exact ke h λi h1 h2=>by rw[<- h2]at hm;exact cq hm
 | Tuple es k p=>rfl
 | _=>exact bc h
def Nx(W1:W.Ok)(ok:CXOk W cx)(CC:B1 W r){gens:List Comprehension}{pos:Pos}(I:∀e,RE W r.e cx e (cj k cx e)):RE W (dO W.P r) cx (.ListComp elt gens sc pos) (pG (xC gens) (Ft (cj k) cx elt sc)):=by
 refine kG λc hc=>?_
 erw [ku hc]
 obtain⟨t,it,ifs,a⟩:=c;refine lB λha=>?_;have ha':a=0:=beq_iff_eq.mp ha;subst ha';refine kG λpt hpt=>kG λcnd hcnd=>lB λhs=>?_
 try dsimp only
 cases hz:ny cx Gv.isEnum it with
 | some z=>
  refine lB λhm=>?_;obtain⟨e,g3,gv,g4,g5⟩:=oq hz;rw[Cz g5]at g4;refine kE (lG ok g4) λq1 q2 q3=>?_
  erw [e]
  refine AZ W1 ok CC hpt hcnd hs (λzz=>Eb hpt hm) (λzz zy zx zw zv zu zt=>rfl) λd ls H x aq i h1 h2=>?_
  cases x using AV.casesOn with
  | str s=>erw [<- ae h2];exact Gb W1.top g3 q2 q1 (W1.glob _ _ q3) ((I _).ev _ _ _ _ _ h1)
  | _=>exact bc h2
 | none=>exact AZ W1 ok CC hpt hcnd hs (λh=>cq h) (λzz zy zx zw h=>(I it).fs _ _ _ _ h) λd ls H x aq i h1 h2=>C8 ((I it).ev _ _ _ _ _ h1) h2
end
end
section
mutual
variable{W:Wd}{n:Nat}{cx:CX}
def B8(IH:∀m,m<=n->Snd W (ev W.P m)){k:Nat}(ok:CXOk W cx){op:BoolOp}{es:List Expr}{p:Pos}:RE W (dO W.P (ev W.P n)) cx (.BoolOp op es p) (wV (cf 1 es.length) (jM (Qo op) (es.map (cj k cx)))):=by
 refine lB λhl=>?_;have I:=(IH n (aw n)).e k cx
 cases es using au with
 | nil=>exact cq hl
 | cons e es=>cases es using au with
  | nil=>exact cq hl
  | cons e' es=>
   refine .plain (λd ls H v H' h=>?_) (λzz zy=>rfl) rfl
   cases op using BoolOp.casesOn with
   | And=>
    exact cD (show((ev W.P n).e d ls H (cj k cx e)).bind _=_ from h) λx aq h1 h2=>cJ h2 λq h3 h4=>by
     have t:=(I e ok).ev _ _ _ _ _ h1
     cases q using aE with
     | false=>exact dt (G:=λv H'=>TE W d cx ls H _ v H') h4 (qi (r6 t h3))
     | true=>exact qi (BV t h3 (u7 IH ok (e'::es) n (aw n) (gc _ _) _ _ _ h4))
   | Or=>
    exact cD (show((ev W.P n).e d ls H (cj k cx e)).bind _=_ from h) λx aq h1 h2=>cJ h2 λq h3 h4=>by
     have t:=(I e ok).ev _ _ _ _ _ h1
     cases q using aE with
     | true=>exact dt (G:=λv H'=>TE W d cx ls H _ v H') h4 (qi (r6 t h3))
     | false=>exact qi (BV t h3 (yG IH ok (e'::es) n (aw n) (gc _ _) _ _ _ h4))
def xg(W1:W.Ok)(IH:∀m,m<=n->Snd W (ev W.P m))(k:Nat)(e:Expr)(ok:CXOk W cx):RE W (dO W.P (ev W.P n)) cx e (cj k cx e):=by
 have S:=IH n (aw n)
 cases k using bL with
 | zero=>exact gz
 | succ k=>
 have I:=λe=>S.e k cx e ok
 cases e using bD with
 | Constant c kd pos=>exact Kv
 | Name x pos=>exact GL W1 ok
 | BoolOp op es pos=>exact B8 IH ok
 | BinOp a op b pos=>exact DQ W1 ok I
 | UnaryOp op a pos=>exact Nt I
 | IfExp c a b pos=>exact Kx (S.t k cx c ok) (I _) (I _)
 | Compare a ops bs pos=>exact zf W1 I
 | Attribute a f pos=>exact lB λhp=>kG λi hi=>GR W1 ok hp hi (I _)
 | List es pos=>exact lB λhs=>GO (S.es k cx es ok hs)
 | Tuple es kk pos=>exact lB λhs=>Kq (S.es k cx es ok hs)
 | Dict ks vs pos=>exact lB λh=>DL h
 | Subscript a b pos=>exact KC I
 | Call f args kws pos=>cases kws using au with
  | cons zz zy=>exact gz
  | nil=>exact GS W1 ok I S.call (S.es k cx args ok)
 | ListComp elt gens sc pos=>exact Nx W1 ok S.comp I
 | _=>exact gz
end
end
section
mutual
variable{α β γ:Type}{b:Bool}{ls':Ls}{e:Expr}{k:Nat}{vs:List AV}
variable{W:Wd}{n:Nat}{d:Nat}{cx:CX}{ls:Ls}{H H':Hp}
def z8(h:Km e=true)(env:Env)(whole:Sem Value):PySem.isTrue e env whole=(do let v <- whole;standAt e.pos;holding [v] (truthy v)):=by
 cases e using bD with
 | UnaryOp op a p=>induction op using UnaryOp.casesOn <;> first | rfl | exact cq h
 | BoolOp=>exact cq h
 | IfExp=>exact cq h
 | Compare=>exact cq h
 | _=>rfl
def xe{r:Ev}{c:E}(h:md c=false):mK r d ls H c=(r.e d ls H c).bind fun(x,H)=>(gW x).map λb=>(b,H):=by
 induction c using E.casesOn <;> first | rfl | exact cq h.symm
def Jg{r:Ev}{c:E}{G:Prop}(h:mK r d ls H c=some (b,H'))(hc:md c=false)(k:∀x,r.e d ls H c=some (x,H')->gW x=some b->G):G:=by
 rw[xe hc]at h;exact cD h λx aq h1 h=>ke h λq h2 h3=>k x ((aH h3).2 ▸h1) ((aH h3).1 ▸h2)
def kW{o:Option α}{k:α->E}(h:∀a,md (k a)=false):md (pG o k)=false:=by
 cases o using bb with
 | none=>rfl
 | some a=>exact h a
def mf{c:E}(h:md c=false):md (wV b c)=false:=by
 cases b using aE with
 | false=>rfl
 | true=>exact h
def LM{f:Expr->E}{a:Expr}{ops:List CmpOp}{bs:List Expr}:md (wu f a ops bs)=false:=by
 cases ops using au with
 | nil=>rfl
 | cons o ops=>cases bs using au with
  | nil=>rfl
  | cons b bs=>cases ops using au with
   | nil=>cases bs using au with
    | nil=>exact mf rfl
    | cons zz zy=>rfl
   | cons o' ops=>cases bs using au with
    | nil=>rfl
    | cons c bs=>cases ops using au with
     | cons zz zy=>rfl
     | nil=>cases bs using au with
      | cons zz zy=>rfl
      | nil=>exact mf (mf rfl)
def Ie{f:Expr->E}{cx:CX}{g:Expr}{args:List Expr}{p:Pos}:md (tM f cx g args p)=false:=by
 cases g using bD with
 | Name g zz=>exact mf (kW λv=>by induction v using Gv.casesOn <;> first | rfl | exact kW λzz=>kW λzz=>kW λzz=>rfl)
 | Attribute o m apos=>
  refine mf (kW λi=>?_);unfold Fs;cases BK o i args with
  | some zz=>rfl
  | none=>cases h:KI cx i args <;> rfl
 | _=>rfl
def BB{cx:CX}(h:Km e=true\/ER e=true):md (cj k cx e)=false:=by
 cases k using bL with
 | zero=>rfl
 | succ k=>
 cases e using bD with
 | BoolOp=>exact h.elim cq cq
 | IfExp=>exact h.elim cq cq
 | UnaryOp op a p=>induction op using UnaryOp.casesOn <;> first | rfl | exact h.elim cq cq
 | Constant c kd p=>induction c using Const.casesOn <;> rfl
 | Name x p=>
  show md (nv cx x)=false;unfold nv;cases cx.slot x with
  | some zz=>rfl
  | none=>exact kW λzz=>rfl
 | BinOp a op b p=>
  show md (qd _ _ a op b)=false;unfold qd;cases Iq cx.nm a op b with
  | some zz=>rfl
  | none=>exact kW λzz=>rfl
 | Compare a ops bs p=>exact LM
 | Attribute a f p=>exact mf (kW λzz=>rfl)
 | List es p=>exact mf rfl
 | Tuple es kk p=>exact mf rfl
 | Dict ks vs p=>exact mf rfl
 | Subscript a b p=>
  show md (qc _ a b)=false;unfold qc;cases mA b with
  | some zz=>exact mf rfl
  | none=>rfl
 | Call g args kws p=>cases kws using au with
  | nil=>exact Ie
  | cons zz zy=>rfl
 | ListComp elt gens sc p=>
  refine kW λc=>mf (kW λzz=>kW λzz=>mf ?_);cases ny cx Gv.isEnum c.iter with
  | some zz=>exact mf rfl
  | none=>rfl
 | _=>rfl
def Ea{m:Nat}{x:AV×Hp}{G:Prop}(h:(ev W.P m).e d ls H .fail=some x):G:=by
 induction m using bL <;> exact bc h
def zc{G:Prop}(h:mK (ev W.P n) d ls H .fail=some (b,H')):G:=cD (show((ev W.P n).e d ls H .fail).bind _=_ from h) λzz zy h1 zx=>Ea h1
def DJ(IH:∀m,m<=n->Snd W (ev W.P m))(ok:CXOk W cx){op:BoolOp}{es:List Expr}{p:Pos}(h:mK (ev W.P n) d ls H (wV (cf 1 es.length) (jM (Qo op) (es.map (cj k cx))))=some (b,H')):TB W d cx ls H (.BoolOp op es p) b H':=by
 have I:=(IH n (aw n)).t k cx
 cases es using au with
 | nil=>exact zc h
 | cons e es=>cases es using au with
  | nil=>exact zc h
  | cons e' es=>
   cases op using BoolOp.casesOn with
   | And=>
    refine cD (show((ev W.P n).t d ls H (cj k cx e)).bind _=_ from h) λq aq h1 h=>?_;have t:=I e ok _ _ _ _ _ h1
    cases q using aE with
    | false=>exact dt (G:=λb H'=>TB W d cx ls H _ b H') h (r7 (mq t))
    | true=>exact r7 (qX t (tO IH ok (e'::es) n (aw n) (gc _ _) _ _ _ h))
   | Or=>
    refine cD (show((ev W.P n).t d ls H (cj k cx e)).bind _=_ from h) λq aq h1 h=>?_;have t:=I e ok _ _ _ _ _ h1
    cases q using aE with
    | true=>exact dt (G:=λb H'=>TB W d cx ls H _ b H') h (r7 (mq t))
    | false=>exact r7 (qX t (u9 IH ok (e'::es) n (aw n) (gc _ _) _ _ _ h))
def xd(IH:∀m,m<=n->Snd W (ev W.P m))(k:Nat)(e:Expr)(ok:CXOk W cx)(h:mK (ev W.P n) d ls H (cj k cx e)=some (b,H')):TB W d cx ls H e b H':=by
 have S:=IH n (aw n);have R:=S.e k cx e ok;cases hv:Km e with
 | true=>exact Jg h (BB (.inl hv)) λx h1 h2=>ME (R.ev _ _ _ _ _ h1) (Kn h2) (λenv whole=>z8 hv env whole)
 | false=>
  cases k using bL with
  | zero=>exact zc h
  | succ k=>
  cases e using bD with
  | BoolOp op es pos=>exact DJ IH ok h
  | UnaryOp op a pos=>
   cases op using UnaryOp.casesOn with
   | Not=>
    refine ke (show((ev W.P n).t d ls H (cj k cx a)).map _=_ from h) λp h1 h2=>?_
    erw [<- (aH h2).1,<- (aH h2).2]
    exact MF (S.t k cx a ok _ _ _ _ _ h1)
   | _=>exact cq hv.symm
  | IfExp c a b' pos=>
   refine cD (show((ev W.P n).t d ls H (cj k cx c)).bind _=_ from h) λq aq h1 h=>MG (S.t k cx c ok _ _ _ _ _ h1) ?_
   cases q using aE with
   | true=>exact S.t k cx a ok _ _ _ _ _ h
   | false=>exact S.t k cx b' ok _ _ _ _ _ h
  | Compare a ops bs pos=>exact Jg h (BB (.inr rfl)) λx h1 h2=>R.tb rfl _ _ _ _ _ _ h1 h2
  | _=>exact cq hv.symm
def vA(S:Snd W (ev W.P n))(k:Nat)(es:List Expr)(ok:CXOk W cx)(hs:es.all cu=true)(h:oD (ev W.P n) d ls H (es.map (cj k cx))=some (vs,H')):TL W d cx ls H es vs H':=by
 cases es using au with
 | nil=>exact dt (G:=λvs H'=>TL W d cx ls H [] vs H') h F4
 | cons e es=>
  refine cD (show((ev W.P n).e d ls H (cj k cx e)).bind _=_ from h) λv aq h1 h=>ke h λp h2 h3=>?_
  erw [<- (aH h3).1,<- (aH h3).2]
  obtain⟨s1,s2⟩:=ag.mp hs;exact wD s1 ((S.e k cx e ok).ev _ _ _ _ _ h1) (S.es k cx es ok s2 _ _ _ _ _ h2)
def BQ{δ:Type}{x:Option (α×β×γ)}{f:α×β×γ->Option δ}{c:δ}{G:Prop}(h:x.bind f=some c)(k:∀a b z,x=some (a,b,z)->f (a,b,z)=some c->G):G:=
 cJ h λp h1 h2=>k p.1 p.2.1 p.2.2 h1 h2
def n5{a a':α}{b b':β}{c c':γ}{G:α->β->γ->Prop}(h:some (a,b,c)=some (a',b',c'))(k:G a b c):G a' b' c':=by
 have:=ae h
 erw [<- (aH this).1,<- (aH (aH this).2).1,<- (aH (aH this).2).2]
 exact k
def vz(S:Snd W (ev W.P n))(k:Nat)(sts:List Stmt)(ok:CXOk W cx){fl:Fl}(h:oC (ev W.P n) d ls H (sts.map (j6 k cx))=some (fl,ls',H')):vk W d cx ls H sts fl ls' H':=by
 cases sts using au with
 | nil=>exact n5 (G:=λfl ls' H'=>vk W d cx ls H [] fl ls' H') h IX
 | cons st sts=>
  refine BQ (show((ev W.P n).s d ls H (j6 k cx st)).bind _=_ from h) λf l aq h1 h=>?_;have t:=S.s k cx st ok _ _ _ _ _ _ h1
  cases f using Fl.casesOn with
  | next=>exact FZ t (S.ss k cx sts ok _ _ _ _ _ _ h)
  | cont=>exact n5 (G:=λfl ls' H'=>vk W d cx ls H _ fl ls' H') h (yN t (λe=>nomatch e))
  | ret v=>exact n5 (G:=λfl ls' H'=>vk W d cx ls H _ fl ls' H') h (yN t (λe=>nomatch e))
def kP{f:α->Option β}{x:α}{xs:List α}{ys:List β}(h:(x::xs).mapM f=some ys):∃y r,f x=some y/\xs.mapM f=some r/\ys=y::r:=by
 rw[List.mapM_cons]at h;exact cJ h λy h1 h=>cJ h λr h2 h=>(i5 y r h1 h2 ((ae h).symm))
def l6{f:α->Option β}{ys:List β}(h:([]:List α).mapM f=some ys):ys= []:=by
 rw[List.mapM_nil]at h;exact(ae h).symm
def xJ{f:α->Option β}:∀{xs:List α} {ys:List β},xs.mapM f=some ys->xs.length=ys.length
 | [],ys,h=>by erw [l6 h];rfl
 | x::xs,ys,h=>by
  refine dX (kP h) λy r zz h2 e=>?_
  erw [e,aI,aI,xJ h2];rfl
def vB(S:Snd W (ev W.P n))(k:Nat)(ts:List Expr)(cs:List T)(ok:CXOk W cx)(hs:ts.all cu=true)(hc:ts.mapM (mM k cx)=some cs)(h:oE (ev W.P n) d ls H cs vs=some (ls',H')):J1 W d cx ls H ts vs ls' H'/\cs.length=vs.length:=by
 cases ts using au with
 | nil=>
  rw[l6 hc]at h |-
  cases vs using au with
  | nil=>exact dt (G:=λls' H'=>J1 W d cx ls H [] [] ls' H'/\_) h ⟨BX,rfl⟩
  | cons zz zy=>exact bc h
 | cons t ts=>
  refine dX (kP hc) λc cs' c1 c2 e=>?_;rw[e]at h |-
  cases vs using au with
  | nil=>exact bc h
  | cons v vs=>
   refine cD (show((ev W.P n).asg d ls H c v).bind _=_ from h) λl aq h1 h2=>?_;obtain⟨s1,s2⟩:=ag.mp hs;obtain⟨t2,e2⟩:=S.asgs k cx ts cs' ok s2 c2 _ _ _ _ _ _ h2;exact⟨yP s1 (S.asg k cx t c ok c1 _ _ _ _ _ _ h1) t2,congrArg (· +1) e2⟩
def qA{o:Option α}{k:α->β}{c:β}(h:KJ b o k=some c):b=true/\∃a,o=some a/\k a=c:=by
 induction b using aE
 ·exact bc h
 ·exact⟨rfl,bK.mp h⟩
def xh(W1:W.Ok)(S:Snd W (ev W.P n))(k:Nat)(t:Expr)(c:T)(ok:CXOk W cx)(hc:mM k cx t=some c){v:AV}(h:sE W.P (ev W.P n) d ls H c v=some (ls',H')):TA W d cx ls H t v ls' H':=by
 have I:=λe=>S.e 100 cx e ok
 cases k using bL with
 | zero=>exact bc hc
 | succ k=>
 cases t using bD with
 | Name x pos=>
  refine ke hc λi hi e=>?_;rw[<- e]at h;exact vU (f:=id) (G:=λls' H'=>TA W d cx ls H _ v ls' H') h λl h1=>wG ok hi h1
 | Attribute a f pos=>
  obtain⟨_,i,hi,e⟩:=qA hc;rw[<- e]at h;refine cD (show((ev W.P n).e d ls H (cj 100 cx a)).bind _=_ from h) λx aq h1 h=>ke h λaO h2 h3=>?_
  erw [<- (aH h3).1,<- (aH h3).2]
  exact I7 W1.top W1.cl (ok.nm ▸nL hi) ((I a).ev _ _ _ _ _ h1) h2
 | Subscript a b pos=>
  replace hc:(match mA b with | some zz=>none | none=>some (T.idx (cj 100 cx a) (cj 100 cx b)))=some c:=hc;cases hz:mA b with
  | some z=>rw[hz]at hc;exact bc hc
  | none=>
   rw[hz]at hc;rw[<- ae hc]at h;refine cD (show((ev W.P n).e d ls H (cj 100 cx a)).bind _=_ from h) λx aq h1 h=>cD h λy aO h2 h=>ke h λdK h3 h4=>?_
   erw [<- (aH h4).1,<- (aH h4).2]
   exact MI ((I a).ev _ _ _ _ _ h1) ((I b).ev _ _ _ _ _ h2) h3
 | Tuple ts kk pos=>
  obtain⟨hs,cs,h1,e⟩:=qA hc;rw[<- e]at h
  cases v using AV.casesOn with
  | U vs=>
   obtain⟨t2,e2⟩:=S.asgs k cx ts cs ok hs h1 _ _ _ _ _ _ h;exact Ga (.inl (bH vs rfl rfl)) hs ((xJ h1).trans e2) t2
  | _=>exact bc h
 | _=>exact bc hc
end
end
section
mutual
variable{ls':Ls}{v:AV}{pt:PT}{t:Expr}{sc:Scope}{it:It}{b:List Stmt}
variable{W:Wd}{n:Nat}{d:Nat}{cx:CX}{ls:Ls}{H H':Hp}
def xF{P:Expr->AV->Ls->Ls->Prop}{Q:List Expr->List AV->Ls->Ls->Prop}{sl:Str->Option Nat}(hn:∀ls,Q [] [] ls ls)(hc:∀x p i v vs es ls l ls',sl x=some i->jg ls i v=some l->Q es vs l ls'->Q (.Name x p::es) (v::vs) ls ls'):∀(es:List Expr) (is:List Nat) (vs:List AV) (ls ls':Ls),es.mapM (λe=>(jH e).bind sl)=some is->fo ls is vs=some ls'->es.all cu=true/\es.length=vs.length/\Q es vs ls ls'
 | [],is,vs,ls,ls',h,g=>by
  rw[l6 h]at g
  cases vs using au with
  | nil=>erw [<- ae g];exact eC rfl rfl (hn _)
  | cons zz zy=>exact bc g
 | e::es,is,vs,ls,ls',h,g=>by
  refine dX (kP h) λi r h1 h2 e1=>?_;rw[e1]at g
  cases vs using au with
  | nil=>exact bc g
  | cons v vs=>
   refine cJ h1 λx h3 h4=>cJ g λl g1 g2=>?_;obtain⟨p,e2⟩:=lF h3;refine kE (xF (P:=P) hn hc es r vs l ls' h2 g2) λa b c=>?_
   erw [e2]
   exact eC a (congrArg (· +1) b) (hc _ _ _ _ _ _ _ _ _ h4 g1 c)
abbrev Tu(H:Hp)(v:AV)(vs:List AV):Prop:=(∃ws,v= .U ws/\ws=vs)\/∃k,v= .ref k/\aD H k=some vs
def rD{is:List Nat}(h:jc H ls (.many is) v=some ls'):∃vs,Tu H v vs/\fo ls is vs=some ls':=by
 cases v using AV.casesOn with
 | U vs=>exact bH vs (.inl (bH vs rfl rfl)) h
 | ref k=>exact cJ (show(aD H k).bind _=_ from h) λvs h1 h2=>(bH vs (.inr (bH k rfl h1)) h2)
 | _=>exact bc h
def xv(h:rJ cx t=some pt){p:Prop}(kN:∀x pos i,t= .Name x pos->cx.slot x=some i->pt= .one i->p)(kT:∀es k pos is,t= .Tuple es k pos->(es.mapM λe=>(jH e).bind cx.slot)=some is->pt= .many is->p):p:=by
 cases t using bD with
 | Name x pos=>exact ke h λi h1 h2=>kN x pos i rfl h1 h2.symm
 | Tuple es k pos=>exact ke h λis h1 h2=>kT es k pos is rfl h1 h2.symm
 | _=>exact dz h
def C5(ok:CXOk W cx)(hp:rJ cx t=some pt)(h:jc H ls pt v=some ls'):TA W d cx ls H t v ls' H:=by
 refine xv hp (λx p i et hi e=>?_) λes k p is et hi e=>?_
 ·rw[e]at h;erw [et];exact wG ok hi h
 ·rw[e]at h
  erw [et]
  refine aL (rD h) λvs hu h1=>?_;refine kE (xF (P:=λzz zy zx zw=>True) (Q:=λes vs ls ls'=>J1 W d cx ls H es vs ls' H) (λzz=>BX) (λx p i v vs es ls l ls' h1 h2 h3=>yP rfl (wG ok h1 h2) h3) _ _ _ _ _ hi h1) λa b c=>?_;exact Ga hu a b c
def xy(hs:ScF cx sc pt){x:Str}{i:Nat}(hx:(cx.inner sc).slot x=some i)(hi:i∈pt.slots)(ok:CXOk W cx):(cx.inner sc).slots.lookup x=some i/\(cx.inner sc).scope.names.lookup x=some .local:=by
 have h:=(jo hx).2;refine⟨h,?_⟩;rcases jv cx sc h with⟨a,b,c⟩ | ⟨a,b⟩
 ·have hm:=bM c;unfold pF at hm;refine aL (cM.mp hm) λxq1 hy e=>?_;obtain⟨y,k⟩:=xq1;obtain⟨hy1,hy2⟩:=List.mem_filter.mp hy;have:=hs.names _ hy1 (beq_iff_eq.mp (ag.mp hy2).1)
  erw [pP,<- e,this,beq_iff_eq.mp (ag.mp hy2).1]
  rfl
 ·exact absurd (ok.lt _ _ a) (iA.mpr (hs.new i hi))
def AB(ok:CXOk W cx)(hs:ScF cx sc pt)(hp:rJ (cx.inner sc) t=some pt)(h:jc H ls pt v=some ls'):I6 W (cx.inner sc) ls H t v ls':=by
 refine xv hp (λx p i et hi e=>?_) λes k p is et hi e=>?_
 ·rw[e]at h hs;obtain⟨k1,k2⟩:=xy hs hi (.head _) ok
  erw [et];exact yO (pO ok hs) k1 k2 h
 ·rw[e]at h hs
  erw [et]
  refine aL (rD h) λvs hu h1=>?_;have key:∀(es:List Expr) (is':List Nat) (vs:List AV) (ls ls':Ls),(∀i∈is',i∈is)->es.mapM (λe=>(jH e).bind (cx.inner sc).slot)=some is'->fo ls is' vs=some ls'->es.all cu=true/\es.length=vs.length/\F9 W (cx.inner sc) ls H es vs ls':=by
   intro es
   induction es with
   | nil=>
    intro is' vs ls ls' zz h g
    rw[l6 h]at g
    cases vs using au with
    | nil=>erw [<- ae g];exact eC rfl rfl F8
    | cons zz zy=>exact bc g
   | cons e es ih=>
    intro is' vs ls ls' hm h g
    refine dX (kP h) λi r h1 h2 e1=>?_
    rw[e1]at g hm
    cases vs using au with
    | nil=>exact bc g
    | cons v vs=>
     refine cJ h1 λx h3 h4=>cJ g λl g1 g2=>?_
     obtain⟨p,e2⟩:=lF h3
     refine kE (ih r vs l ls' (λj hj=>hm j (.tail _ hj)) h2 g2) λa b c=>?_
     obtain⟨k1,k2⟩:=xy hs h4 (hm i (.head _)) ok
     erw [e2]
     exact eC a (congrArg (· +1) b) (C7 rfl (yO (pO ok hs) k1 k2 g1) c)
  refine kE (key _ _ _ _ _ (λzz h=>h) hi h1) λa b c=>?_;exact I5 hu a b c
def ud(S:Snd W (ev W.P n))(k:Nat)(t:Expr)(pt:PT)(b:List Stmt)(ok:CXOk W cx)(hp:rJ cx t=some pt){fl:Fl}(h:mz (ev W.P n) d ls H it pt (b.map (j6 k cx))=some (fl,ls',H')):∃m,FRun W d cx t b m ls H it fl ls' H':=by
 refine cJ (show(it.next H).bind _=_ from h) λo h1 h=>?_
 cases o using bb with
 | none=>exact n5 (G:=λfl ls' H'=> ∃m,FRun W d cx t b m ls H it fl ls' H') h ⟨0, .done h1⟩
 | some p=>
  obtain⟨v,it'⟩:=p;refine cJ (show(jc H ls pt v).bind _=_ from h) λl h2 h=>BQ h λf vV aO h3 h=>?_;have ta:=C5 (d:=d) ok hp h2;have ts:=S.ss k cx b ok _ _ _ _ _ _ h3
  cases f using Fl.casesOn with
  | ret w=>exact n5 (G:=λfl ls' H'=> ∃m,FRun W d cx t b m ls H it fl ls' H') h ⟨0, .ret h1 ta ts⟩
  | next=>obtain⟨m,hm⟩:=S.for_ k cx t pt b ok hp _ _ _ _ _ _ _ h;exact⟨m+1, .turn h1 ta ts (.inl rfl) hm⟩
  | cont=>obtain⟨m,hm⟩:=S.for_ k cx t pt b ok hp _ _ _ _ _ _ _ h;exact⟨m+1, .turn h1 ta ts (.inr rfl) hm⟩
def sC(S:Snd W (ev W.P n))(k:Nat)(sc:Scope)(t:Expr)(pt:PT)(ce:Option Expr)(ee:Expr)(ok:CXOk W cx)(hs:ScF cx sc pt)(hp:rJ (cx.inner sc) t=some pt){j:Nat}
  (h:kF (ev W.P n) d ls H it pt (ce.map (cj k (cx.inner sc))) (cj k (cx.inner sc) ee) j=some H'):∃m,CRun W d (cx.inner sc) t ce ee j m ls H it H':=by
 refine cJ (show(it.next H).bind _=_ from h) λo h1 h=>?_
 cases o using bb with
 | none=>erw [<- ae h];exact⟨0, .done h1⟩
 | some p=>
  obtain⟨v,it'⟩:=p;refine cJ (show(jc H ls pt v).bind _=_ from h) λl h2 h=>cD h λq aq h3 h=>?_;have ta:=AB ok hs hp h2;have ok':=pO ok hs;have cond:(ce=none/\q=true/\aq=H)\/∃e,ce=some e/\TB W d (cx.inner sc) l H e q aq:=by
   cases ce using bb with
   | none=>exact .inl (eC rfl ((aH (ae h3)).1.symm) ((aH (ae h3)).2.symm))
   | some e=>exact .inr (bH e rfl (S.t k _ e ok' _ _ _ _ _ h3))
  cases q using aE with
  | false=>
   obtain⟨m,hm⟩:=S.comp k cx sc t pt ce ee ok hs hp _ _ _ _ _ _ h;rcases cond with⟨_,e,_⟩ | ⟨e,he,hb⟩
   ·exact cq e
   ·exact⟨m+1, .skip h1 ta he hb hm⟩
  | true=>
   refine cD (show((ev W.P n).e d l aq (cj k (cx.inner sc) ee)).bind _=_ from h) λx aO h4 h=>cD h λu dK h5 h=>?_;obtain⟨m,hm⟩:=S.comp k cx sc t pt ce ee ok hs hp _ _ _ _ _ _ h;exact⟨m+1, .take h1 ta (cond.imp (λxq2=>kE xq2 λa zz b=>⟨a,b⟩) id) ((S.e k _ ee ok').ev _ _ _ _ _ h4) h5 hm⟩
def GT{fl:Fl}{G:Prop}(h:(ev W.P n).ss d ls H [.fail]=some (fl,ls',H')):G:=by
 cases n using bL with
 | zero=>exact bc h
 | succ n=>exact cJ (show((ev W.P n).s d ls H .fail).bind _=_ from h) λzz h1 zy=>by induction n using bL <;> exact bc h1
def sD(W1:W.Ok)(S:Snd W (ev W.P n)){f:Nat}{args:List AV}(h:iE W.P (ev W.P n) d H f args=some (v,H')):jZ W d H f args v H'/\∀F,W.P.fns[f]? =some F->F.body≠ [.fail]:=by
 unfold iE at h
 cases d using bL with
 | zero=>exact bc h
 | succ d'=>
 cases hF:W.P.fns[f]? with
 | none=>rw[hF]at h;exact bc h
 | some F=>
  rw[hF]at h
  try dsimp only at h
  cases hl:((args++F.dfl.drop (F.dfl.length-(F.np-args.length))).length==F.np)with
  | false=>rw[hl]at h;exact bc h
  | true=>
   rw[hl]at h;refine BQ h λfl ls' aq h1 h=>?_;have nf:F.body≠ [.fail]:=λe=>by rw[e]at h1;exact GT h1
   rcases W1.fns f F hF with e | ⟨a,fd,body,ha,ok⟩
   ·exact absurd e nf
   ·refine⟨?_,λF' hF'=>ae hF' ▸nf⟩;rw[(u4 F ok.fn).2.2]at h1;have ts:=S.ss 40 _ body (Ia W (fd.params.args.map (·.arg)) fd.scope) _ _ _ _ _ _ h1
    cases fl using Fl.casesOn with
    | ret w=>exact dt (G:=λv H'=>jZ W (d'+1) H f args v H') h (Oc d' a F fd body _ _ ls' rfl ha ok rfl (beq_iff_eq.mp hl) ts (.inl rfl))
    | next=>exact dt (G:=λv H'=>jZ W (d'+1) H f args v H') h (Oc d' a F fd body _ _ ls' rfl ha ok rfl (beq_iff_eq.mp hl) ts (.inr ⟨rfl,rfl⟩))
    | cont=>exact bc h
def Mq{Of:ExceptHandler}{hs:List ExceptHandler}{pos:Pos}{fl:Fl}(h:vk W d cx ls H b fl ls' H'):TS W d cx ls H (.Try b (Of::hs) [] [] pos) fl ls' H':=by
 intro A B ρ fr F env s hA hB hE hF hR;refine wpAny_Try_except (dN (h A B ρ fr F env s hA hB hE hF hR) (λr s' z=>?_) λzz zy e=>e.elim);refine jT (id z) λB' ρ' fr' g R rr f q=>?_
 induction q using FlR.casesOn
 ·exact wpAny_execs_nil z
 ·exact z
 ·exact z
def qp(IH:∀m,m<=n->Snd W (ev W.P m)){k:Nat}{c:Expr}(ok:CXOk W cx):∀(m:Nat) (ls:Ls) (H:Hp) (fl:Fl) (ls':Ls),m<=n->pn (ev W.P m) d ls H (.while (cj 100 cx c) (b.map (j6 k cx)))=some (fl,ls',H')->∃w,WRun W d cx c b w ls H fl ls' H'
 | 0,ls,H,fl,ls',hm,h=>bc h
 | m+1,ls,H,fl,ls',hm,h=>cD (show((ev W.P (m+1)).t d ls H (cj 100 cx c)).bind _=_ from h) λq aq h1 h=>by
  have S:=IH (m+1) hm;have t:=S.t 100 cx c ok _ _ _ _ _ h1
  cases q using aE with
  | false=>exact n5 (G:=λfl ls' H'=> ∃w,WRun W d cx c b w ls H fl ls' H') h ⟨0, .done t⟩
  | true=>
   refine BQ (show((ev W.P (m+1)).ss d ls aq (b.map (j6 k cx))).bind _=_ from h) λf l aO h2 h=>?_;have ts:=S.ss k cx b ok _ _ _ _ _ _ h2
   cases f using Fl.casesOn with
   | ret w=>exact n5 (G:=λfl ls' H'=> ∃w,WRun W d cx c b w ls H fl ls' H') h ⟨0, .ret t ts⟩
   | next=>obtain⟨w,hw⟩:=qp IH ok m l aO fl ls' (dg hm) h;exact⟨w+1, .turn t ts (.inl rfl) hw⟩
   | cont=>obtain⟨w,hw⟩:=qp IH ok m l aO fl ls' (dg hm) h;exact⟨w+1, .turn t ts (.inr rfl) hw⟩
end
end
section
mutual
variable{e t:Expr}{st:Stmt}{k:Nat}{α:Type}
variable{W:Wd}{n:Nat}{d:Nat}{cx:CX}{ls:Ls}{H H':Hp}
def vg:∀(m:Nat) (is:List Nat) (vs:List AV) (ls ls':Ls),(ev W.P m).asgs d ls H (is.map .v) vs=some (ls',H')->fo ls is vs=some ls'/\H'=H
 | 0,_,_,_,_,h=>bc h
 | m+1,[],[],ls,ls',h=>⟨congrArg some (aH (ae h)).1,(aH (ae h)).2.symm⟩
 | m+1,[],_::_,_,_,h=>bc h
 | m+1,_::_,[],_,_,h=>bc h
 | m+1,i::is,v::vs,ls,ls',h=>cD (show((ev W.P m).asg d ls H (.v i) v).bind _=_ from h) λl aq h1 h2=>by
  cases m using bL with
  | zero=>exact bc h1
  | succ m=>
   refine ke (show(jg ls i v).map _=_ from h1) λl' h3 h4=>?_;rw[<- (aH h4).2]at h2;obtain⟨e1,e2⟩:=vg (m+1) is vs l ls' h2;refine⟨?_,e2⟩;show(jg ls i v).bind _=_
   erw [h3,(aH h4).1]
   exact e1
def rm:∀(ts:List Expr) (ns:List Str) (cs:List T),ns.map some=ts.map jH->ts.mapM (mM (k+1) cx)=some cs->∃is:List Nat,cs=is.map .v/\ns.map cx.slot=is.map some
 | [],[],cs,_,h=>(bH ([]) (l6 h) rfl)
 | [],_::_,_,e,_=>nomatch e
 | _::_,[],_,e,_=>nomatch e
 | t::ts,x::ns,cs,e,h=>by
  refine dX (kP h) λc r h1 h2 e1=>?_;obtain⟨e2,e3⟩:=dB e;obtain⟨p,e4⟩:=lF e2.symm;rw[e4]at h1;refine ke h1 λi hi e5=>?_;refine aL (rm ts ns r e3 h2) λis e6 e7=>?_;exact bH (i::is) (by erw [e1,e6,<- e5];rfl) (by erw [bk,bk,hi,e7];rfl)
def ri(ok:CXOk W cx):∀(ns:List Str) (is:List Nat),ns.Nodup->ns.map cx.slot=is.map some->is.Nodup
 | [],[],_,_=>List.nodup_nil
 | [],_::_,_,h=>nomatch h
 | _::_,[],_,h=>nomatch h
 | x::ns,i::is,hn,h=>by
  obtain⟨h1,h2⟩:=dB h;obtain⟨n1,n2⟩:=bR.mp hn;refine bR.mpr ⟨λhm=>?_,ri ok ns is n2 h2⟩;have hm:=jF (f:=some) hm;rw[<- h2]at hm;refine aL (cM.mp hm) λy hy e=>?_;exact n1 (ok.inj _ _ _ (jo e).2 (jo h1).2 ▸hy)
noncomputable abbrev RS(W:Wd)(n:Nat)(cx:CX)(st:Stmt)(c:S):Prop:= ∀d ls H fl ls' H',pn (ev W.P n) d ls H c=some (fl,ls',H')->TS W d cx ls H st fl ls' H'
def vE:RS W n cx st .fail:=λzz zy zx zw zv zu h=>bc h
def zg{o:Option α}{k:α->S}(h:∀a,o=some a->RS W n cx st (k a)):RS W n cx st (G8 o k):=by
 cases o using bb with
 | none=>exact vE
 | some a=>exact h a rfl
def Ji{b:Bool}{c:S}(h:b=true->RS W n cx st c):RS W n cx st (QB b c):=by
 cases b using aE with
 | false=>exact vE
 | true=>exact h rfl
def NS{β γ δ:Type}{x:Option (α×β)}{f:α->β->γ}{l l':δ}{fl:γ}{H:β}{G:γ->δ->β->Prop}(h:(x.map λp=>(f p.1 p.2,l,p.2))=some (fl,l',H))(k:∀v H,x=some (v,H)->G (f v H) l H):G fl l' H:=
 ke h λp h1 h2=>by
  erw [<- (aH h2).1,<- (aH (aH h2).2).1,<- (aH (aH h2).2).2]
  exact k _ _ h1
def GP{c:E}{p:Pos}(hp:kJ e=true)(he:RE W (ev W.P n).e cx e c):RS W n cx (.Expr e p) (.expr c):=λd ls H fl ls' H' h=>
 NS (f:=λzz zy=>Fl.next) (G:=λfl ls' H'=>TS W d cx ls H _ fl ls' H') h λv H h1=>IV hp (he.ev _ _ _ _ _ h1)
def Kr{c:E}{p:Pos}(he:RE W (ev W.P n).e cx e c):RS W n cx (.Return (some e) p) (.ret c):=λd ls H fl ls' H' h=>
 NS (f:=λv zz=>Fl.ret v) (G:=λfl ls' H'=>TS W d cx ls H _ fl ls' H') h λv H h1=>Mr (he.ev _ _ _ _ _ h1)
def nR{d:Nat}{ls:Ls}{H:Hp}{c:T}{ce:E}{fl:Fl}{ls':Ls}{H':Hp}{G:Fl->Ls->Hp->Prop}(h:pn (ev W.P n) d ls H (.aS c ce)=some (fl,ls',H'))(k:∀v aq ls' H',(ev W.P n).e d ls H ce=some (v,aq)->(ev W.P n).asg d ls aq c v=some (ls',H')->G .next ls' H'):G fl ls' H':=
 cD (show((ev W.P n).e d ls H ce).bind _=_ from h) λv aq h1 h=>ke h λp h2 h3=>by
  erw [<- (aH h3).1,<- (aH (aH h3).2).1,<- (aH (aH h3).2).2]
  exact k v aq _ _ h1 h2
def n7{c:T}(h:mM k cx t=some c):cu t=true:=by
 cases k using bL with
 | zero=>exact bc h
 | succ k=>induction t using bD <;> first | rfl | exact bc h
def GK(S:Snd W (ev W.P n))(ok:CXOk W cx){us vs:List Expr}{kk k':Nat}{p p' pos:Pos}{c:T}{ns:List Str}(hw:jn cx.scope us vs=some (some ns))(s1:ns.Nodup)(s2:ns.map some=us.map jH)(hc:mM 10 cx (.Tuple us kk p)=some c):
  RS W n cx (.Assign [.Tuple us kk p] (.Tuple vs k' p') pos) (.aS c (cj 100 cx (.Tuple vs k' p'))):=λd ls H fl ls' H' h=>
 nR (G:=λfl ls' H'=>TS W d cx ls H _ fl ls' H') h λv aq ls' H' h1 h2=>by
  have R:=S.e 100 cx (.Tuple vs k' p') ok;obtain⟨us',e⟩:=R.tv rfl _ _ _ _ _ h1;rw[e]at h1 h2;obtain⟨_,cs,h3,e3⟩:=qA hc;refine aL (rm us ns cs s2 h3) λis e4 e5=>?_;rw[<- e3,e4]at h2
  cases n using bL with
  | zero=>exact bc h1
  | succ m=>
   obtain⟨q1,q2⟩:=vg m is us' ls ls' h2
   erw [q2]
   exact tV ok hw e5 (ri ok ns is s1 e5) (R.ev _ _ _ _ _ h1) q1
def DP(S:Snd W (ev W.P n))(ok:CXOk W cx){c:T}{pos:Pos}(hc:mM 10 cx t=some c)(hp:kJ e=true)(hw:∀env,EnvOk cx env->swappedStores [t] e env=pure none):RS W n cx (.Assign [t] e pos) (.aS c (cj 100 cx e)):=λd ls H fl ls' H' h=>
 nR (G:=λfl ls' H'=>TS W d cx ls H _ fl ls' H') h λv aq ls' H' h1 h2=>
  vj (n7 hc) ((S.e 100 cx e ok).ev _ _ _ _ _ h1) (S.asg 10 cx t c ok hc _ _ _ _ _ _ h2) (λzz zy=>q9 hp _ _ _) hw
def Hq(t:Expr):(∃x p,t= .Name x p)\/∀x p,t≠ .Name x p:=by
 cases t using bD with | Name x p=>exact .inl (ug x p rfl) | _=>exact .inr λzz zy e=>nomatch e
def w8(t:Expr):(∃es k p,t= .Tuple es k p)\/∀es k p,t≠ .Tuple es k p:=by
 cases t using bD with | Tuple x p q=>exact .inl (HQ x p q rfl) | _=>exact .inr λzz zy zx e=>nomatch e
def DO(W1:W.Ok)(S:Snd W (ev W.P n))(ok:CXOk W cx){c:T}{pos:Pos}(hc:mM 10 cx t=some c)(hl:Lz e=true):RS W n cx (.Assign [t] e pos) (.aS c (cj 100 cx e)):=λd ls H fl ls' H' h=>
 nR (G:=λfl ls' H'=>TS W d cx ls H _ fl ls' H') h λv aq ls' H' h1 h2=>by
  have R:=S.e 100 cx e ok;obtain⟨elt,gens,sc,lp,e1,tt,it,ifs,pt,q,dK,i,m,b0,b1,b2,b3,b4,b5,b6,ce,b7,b8⟩:=R.lc hl _ _ _ _ _ h1;have te:=R.ev _ _ _ _ _ h1;rw[e1,b0]at te |-
  have gen:(∀x p,t≠ .Name x p)->TS W d cx ls H (.Assign [t] (.ListComp elt [⟨tt,it,ifs,0⟩] sc lp) pos) .next ls' H':=λhx=>
   vj (n7 hc) te (S.asg 10 cx t c ok hc _ _ _ _ _ _ h2) (λenv zz=>by induction t using bD <;> first | rfl | exact absurd rfl (hx _ _)) λenv zz=>by induction t using bD <;> rfl
  rcases Hq t with⟨x,p,et⟩ | ht
  ·rw[et]at hc |-
   refine ke hc λj hj e=>?_;rw[<- e,b4]at h2
   cases n using bL with
   | zero=>exact bc h1
   | succ k=>exact vU (f:=id) (x:=jg ls j (.ref dK.length)) (G:=λls' H'=>TS W d cx ls H _ .next ls' H') h2 λl h3=>tW W1.cl ok b1 b7 b3 b2 b5 b6 b8 hj h3
  ·exact gen ht
def IA(h:kJ e=false){p:Prop}(k:∀elt gens sc lp,e= .ListComp elt gens sc lp->p)(k0:cj 100 cx e= .fail->p):p:=by
 cases e using bD with
 | ListComp elt gens sc lp=>exact k _ _ _ _ rfl
 | SetComp=>exact k0 rfl
 | DictComp=>exact k0 rfl
 | _=>exact cq h.symm
def B9(W1:W.Ok)(S:Snd W (ev W.P n))(ok:CXOk W cx){pos:Pos}(hsw:DF cx.scope t e=true){c:T}(hc:mM 10 cx t=some c):RS W n cx (.Assign [t] e pos) (.aS c (cj 100 cx e)):=by
 cases hp:kJ e with
 | true=>
  have other:(∀ts k p,t= .Tuple ts k p->∀vs k' p',e≠ .Tuple vs k' p')->RS W n cx (.Assign [t] e pos) (.aS c (cj 100 cx e)):=λhn=>DP S ok hc hp λenv zz=>ub hn λes p ht=>by
   rw[ht]at hc
   exact bc hc
  rcases w8 t with⟨us,kk,p,et⟩ | ht
  ·rcases w8 e with⟨vs,k',p',ee⟩ | he
   ·rw[et]at hc;rw[et,ee]at hsw |-
    replace hsw:(match jn cx.scope us vs with | none=>false | some none=>true | some (some ns)=>decide ns.Nodup && decide (ns.map some=us.map jH))=true:=hsw;cases hw:jn cx.scope us vs with
    | none=>rw[hw]at hsw;exact cq hsw
    | some o=>cases o using bb with
     | none=>exact DP S ok hc rfl λenv hE=>sm hE.scope hE.kind hw
     | some ns=>
      rw[hw]at hsw;obtain⟨s1,s2⟩:=ag.mp hsw;exact GK S ok hw (of_decide_eq_true s1) (of_decide_eq_true s2) hc
   ·exact other λzz zy zx zw=>he
  ·exact other λzz zy zx e=>absurd e (ht _ _ _)
 | false=>
  refine IA (cx:=cx) hp (λelt gens sc lp e=>?_) λh0=>?_
  ·erw [e];exact DO W1 S ok hc rfl
  ·exact λd ls H fl ls' H' h=>nR (G:=λfl ls' H'=>TS W d cx ls H _ fl ls' H') h λzz zy zx zw h1 zv=>Ea (h0 ▸h1)
def xf(W1:W.Ok)(IH:∀m,m<=n->Snd W (ev W.P m))(k:Nat)(st:Stmt)(ok:CXOk W cx):RS W n cx st (j6 k cx st):=by
 have S:=IH n (aw n);have I:=λe=>S.e 100 cx e ok
 cases k using bL with
 | zero=>exact vE
 | succ k=>
 cases st using Stmt.casesOn with
 | Expr e pos=>exact Ji λhp=>GP hp (I e)
 | Return e pos=>
  cases e using bb with
  | none=>exact λd ls H fl ls' H' h=>n5 (G:=λfl ls' H'=>TS W d cx ls H _ fl ls' H') h IT
  | some e=>exact Kr (I e)
 | Pass pos=>exact λd ls H fl ls' H' h=>n5 (G:=λfl ls' H'=>TS W d cx ls H _ fl ls' H') h IU
 | Continue pos=>exact λd ls H fl ls' H' h=>n5 (G:=λfl ls' H'=>TS W d cx ls H _ fl ls' H') h IW
 | If c a b pos=>
  intro d ls H fl ls' H' h;refine cD (show((ev W.P n).t d ls H (cj 100 cx c)).bind _=_ from h) λq aq h1 h=>Ms (S.t 100 cx c ok _ _ _ _ _ h1) ?_
  cases q using aE with
  | true=>exact S.ss k cx a ok _ _ _ _ _ _ h
  | false=>exact S.ss k cx b ok _ _ _ _ _ _ h
 | While c b o pos=>
  cases o using au with
  | cons zz zy=>exact vE
  | nil=>exact λd ls H fl ls' H' h=>J9 (qp IH ok n ls H fl ls' (aw n) h) λw hw=>FY hw
 | For t src b o pos=>
  cases o using au with
  | cons zz zy=>exact vE
  | nil=>
   refine zg λpt hp d ls H fl ls' H' h=>cD (show((ev W.P n).e d ls H (cj 100 cx src)).bind _=_ from h) λx aq h1 h=>?_
   try dsimp only at h
   cases hi:gA aq x with
   | none=>rw[hi]at h;exact bc h
   | some it=>
    rw[hi]at h;obtain⟨m,hm⟩:=S.for_ k cx t pt b ok hp _ _ _ _ _ _ _ h;exact Mt ((I src).ev _ _ _ _ _ h1) hi ((I src).fs _ _ _ _ h1) hm
 | Try b hs o f pos=>
  cases hs using au with
  | nil=>exact vE
  | cons Of hs=>
   cases o using au with
   | cons zz zy=>exact vE
   | nil=>cases f using au with
    | cons zz zy=>exact vE
    | nil=>exact λd ls H fl ls' H' h=>Mq (S.ss k cx b ok _ _ _ _ _ _ h)
 | Assign ts e pos=>
  refine zg λt ht=>?_
  erw [ku ht]
  exact Ji λhsw=>zg λc hc=>B9 W1 S ok hsw hc
 | _=>exact vE
def C4:Snd W .bot:=⟨λzz zy zx zw=>⟨λzz zy zx zw zv h=>bc h,λzz zy zx zw h=>bc h,λzz zy zx zw zv zu zt h=>bc h,λzz zy zx zw zv zu h=>bc h,λzz zy zx zw zv zu h=>bc h⟩,λzz zy zx zw zv zu zt zs zr zq h=>bc h,λzz zy zx zw zv zu zt zs zr h=>bc h,λzz zy zx zw zv zu zt zs zr zq h=>bc h,λzz zy zx zw zv zu zt zs zr zq h=>bc h,λzz zy zx zw zv zu zt zs zr zq zp zo h=>bc h,λzz zy zx zw zv zu zt zs zr zq zp zo zn h=>bc h,λzz zy zx zw zv zu h=>bc h,λzz zy zx zw zv zu zt zs zr zq zp zo zn zm h=>bc h,λzz zy zx zw zv zu zt zs zr zq zp zo zn zm zl zk h=>bc h⟩
end
end
mutual
def Ny{W:Wd}(W1:W.Ok)(n:Nat):Snd W (ev W.P n):=by
 cases n using Nat.strongRecOn with
 | _ n ih=>
 cases n using bL with
 | zero=>exact C4
 | succ n=>
  have IH:∀m,m<=n->Snd W (ev W.P m):=λm hm=>ih m (k7 hm);have S:=IH n (aw n);exact⟨λk cx e ok=>xg W1 IH k e ok,λk cx es ok hs d ls H vs H' h=>vA S k es ok hs h,λk cx e ok d ls H b H' h=>xd IH k e ok h,λk cx st ok=>xf W1 IH k st ok,λk cx sts ok d ls H fl ls' H' h=>vz S k sts ok h,λk cx t c ok hc d ls H v ls' H' h=>xh W1 S k t c ok hc h,λk cx ts cs ok hs hc d ls H vs ls' H' h=>vB S k ts cs ok hs hc h,λd H f args v H' h=>sD W1 S h,λk cx t pt b ok hp d ls H it fl ls' H' h=>ud S k t pt b ok hp h,λk cx sc t pt ce ee ok hs hp d ls H it j H' h=>sC S k sc t pt ce ee ok hs hp h⟩
end
end Mine.Internal
end
section
namespace Mine.Internal
mutual
variable{β:Type}
structure Ev.Le(r r':Ev):Prop where
 e:∀{d ls H c a},r.e d ls H c=some a->r'.e d ls H c=some a
 es:∀{d ls H c a},r.es d ls H c=some a->r'.es d ls H c=some a
 t:∀{d ls H c a},r.t d ls H c=some a->r'.t d ls H c=some a
 s:∀{d ls H c a},r.s d ls H c=some a->r'.s d ls H c=some a
 ss:∀{d ls H c a},r.ss d ls H c=some a->r'.ss d ls H c=some a
 asg:∀{d ls H c v a},r.asg d ls H c v=some a->r'.asg d ls H c v=some a
 asgs:∀{d ls H c v a},r.asgs d ls H c v=some a->r'.asgs d ls H c v=some a
 call:∀{d H f v a},r.call d H f v=some a->r'.call d H f v=some a
 for_:∀{d ls H i t b a},r.for_ d ls H i t b=some a->r'.for_ d ls H i t b=some a
 comp:∀{d ls H i t c x k a},r.comp d ls H i t c x k=some a->r'.comp d ls H i t c x k=some a
def Ev.Le.refl(r:Ev):r.Le r:=⟨id,id,id,id,id,id,id,id,id,id⟩
def Ev.Le.trans{a b c:Ev}(x:a.Le b)(y:b.Le c):a.Le c:=⟨λh=>y.e (x.e h),λh=>y.es (x.es h),λh=>y.t (x.t h),λh=>y.s (x.s h),λh=>y.ss (x.ss h),λh=>y.asg (x.asg h),λh=>y.asgs (x.asgs h),λh=>y.call (x.call h),λh=>y.for_ (x.for_ h),λh=>y.comp (x.comp h)⟩
abbrev J5(f:Nat->Ev):Prop:= ∀n m,n<=m->(f n).Le (f m)
open Classical in
noncomputable def Bw{α:Type}(f:Nat->Option α):Option α:=if h:∃n a,f n=some a then f (choose h)else none
def ez{α:Type}{f:Nat->Option α}(hm:∀n m a,n<=m->f n=some a->f m=some a){a:α}:Bw f=some a ↔ ∃n,f n=some a:=by
 unfold Bw;constructor
 ·intro h
  split at h
  ·exact⟨_,h⟩
  ·cases h
 ·rintro ⟨n,h⟩;have hx:∃n a,f n=some a:=(ug n a h)
  erw [dif_pos hx]
  obtain⟨b,hb⟩:=Classical.choose_spec hx;have h1:=hm _ _ _ (iL n (Classical.choose hx)) h;have h2:=hm _ _ _ (lT n (Classical.choose hx)) hb;rw[h1]at h2
  erw [hb,h2];rfl
abbrev NZ(f:Nat->Ev):Ev where
 e:=λd ls H c=>Bw λn=>(f n).e d ls H c
 es:=λd ls H c=>Bw λn=>(f n).es d ls H c
 t:=λd ls H c=>Bw λn=>(f n).t d ls H c
 s:=λd ls H c=>Bw λn=>(f n).s d ls H c
 ss:=λd ls H c=>Bw λn=>(f n).ss d ls H c
 asg:=λd ls H c v=>Bw λn=>(f n).asg d ls H c v
 asgs:=λd ls H c v=>Bw λn=>(f n).asgs d ls H c v
 call:=λd H g v=>Bw λn=>(f n).call d H g v
 for_:=λd ls H i t b=>Bw λn=>(f n).for_ d ls H i t b
 comp:=λd ls H i t c x k=>Bw λn=>(f n).comp d ls H i t c x k
structure Good{α:Type}(F:Ev->Option α):Prop where
 mono:∀r r',r.Le r'->∀a,F r=some a->F r'=some a
 cont:∀f,J5 f->∀a,F (NZ f)=some a->∃n,F (f n)=some a
def aY{α:Type}(x:Option α):Good λzz=>x:=⟨λzz zy zx zw h=>h,λzz zy zx h=>⟨0,h⟩⟩
def bh{α:Type}{F:Ev->Option α}{G:α->Ev->Option β}(hF:Good F)(hG:∀a,Good (G a)):Good λr=>(F r).bind λa=>G a r:=by
 refine⟨λr r' l a h=>?_,λf hf a h=>?_⟩
 ·refine aL (ct.mp h) λx h1 h2=>?_;exact ct.mpr (bH x (hF.mono _ _ l _ h1) ((hG x).mono _ _ l _ h2))
 ·refine aL (ct.mp h) λx h1 h2=>?_;obtain⟨n,hn⟩:=hF.cont f hf _ h1;obtain⟨m,hm⟩:=(hG x).cont f hf _ h2;exact⟨max n m,ct.mpr (bH x (hF.mono _ _ (hf _ _ (iL n m)) _ hn) ((hG x).mono _ _ (hf _ _ (lT n m)) _ hm))⟩
def me{α:Type}{F:Ev->Option α}{g:α->β}(hF:Good F):Good λr=>(F r).map g:=by
 refine⟨λr r' l a h=>?_,λf hf a h=>?_⟩
 ·refine aL (bK.mp h) λx h1 h2=>?_;exact bK.mpr (bH x (hF.mono _ _ l _ h1) h2)
 ·refine aL (bK.mp h) λx h1 h2=>?_;obtain⟨n,hn⟩:=hF.cont f hf _ h1;exact⟨n,bK.mpr (bH x hn h2)⟩
def fk{d ls H c}:Good λr=>r.e d ls H c:=⟨λzz zy l zx h=>l.e h,λf hf a h=>(ez λn m a l h=>(hf n m l).e h).mp h⟩
def nM{d ls H c}:Good λr=>r.es d ls H c:=⟨λzz zy l zx h=>l.es h,λf hf a h=>(ez λn m a l h=>(hf n m l).es h).mp h⟩
def jW{d ls H c}:Good λr=>r.t d ls H c:=⟨λzz zy l zx h=>l.t h,λf hf a h=>(ez λn m a l h=>(hf n m l).t h).mp h⟩
def Af{d ls H c}:Good λr=>r.s d ls H c:=⟨λzz zy l zx h=>l.s h,λf hf a h=>(ez λn m a l h=>(hf n m l).s h).mp h⟩
def mE{d ls H c}:Good λr=>r.ss d ls H c:=⟨λzz zy l zx h=>l.ss h,λf hf a h=>(ez λn m a l h=>(hf n m l).ss h).mp h⟩
def yj{d ls H c v}:Good λr=>r.asg d ls H c v:=⟨λzz zy l zx h=>l.asg h,λf hf a h=>(ez λn m a l h=>(hf n m l).asg h).mp h⟩
def uT{d ls H c v}:Good λr=>r.asgs d ls H c v:=⟨λzz zy l zx h=>l.asgs h,λf hf a h=>(ez λn m a l h=>(hf n m l).asgs h).mp h⟩
def qP{d H c v}:Good λr=>r.call d H c v:=⟨λzz zy l zx h=>l.call h,λf hf a h=>(ez λn m a l h=>(hf n m l).call h).mp h⟩
def tF{d ls H i t b}:Good λr=>r.for_ d ls H i t b:=⟨λzz zy l zx h=>l.for_ h,λf hf a h=>(ez λn m a l h=>(hf n m l).for_ h).mp h⟩
def qN{d ls H i t c x k}:Good λr=>r.comp d ls H i t c x k:=⟨λzz zy l zx h=>l.comp h,λf hf a h=>(ez λn m a l h=>(hf n m l).comp h).mp h⟩
def yi{d ls H}:∀{o:Option E},Good λr:Ev=>MT (r.e d ls H) H o
 | none=>aY _
 | some x=>me fk
def EY{α:Type}{b:Bool}{F:Ev->Option α}(h:Good F):Good λr=>eU b (F r):=by
 cases b
 ·exact aY _
 ·exact h
def LD{α:Type}{q:Bool}{G F:Ev->Option α}(h0:Good G)(h1:Good F):Good λr=>match q with | false=>G r | true=>F r:=by
 induction q using aE
 ·exact h0
 ·exact h1
set_option tactic.hygienic true in
theorem tD{P:Pg}{d ls H}(c:E):Good λr=>dO P r d ls H c:=by
 induction c using E.casesOn
 case meth a m as=>
  refine bh fk λp=>?_;obtain⟨x,H⟩:=p
  try dsimp only
  split
  ·exact bh nM λp=>qP
  ·exact EY (bh nM λp=>aY _)
 case new c as=>
  refine bh nM λp=>bh (aY _) λC=>bh qP λp=>?_;exact aY _
 case slice a l h=>exact bh fk λp=>bh yi λp=>bh yi λp=>aY _
 case comp elt t src en c=>
  refine LD (q:=eV ls t) (aY _) ?_;exact bh fk λp=>bh (aY _) λp=>me qN
 case chain a o b o' c=>
  refine bh fk λp=>bh fk λp=>bh (aY _) λq=>?_
  induction q using aE
  ·exact aY _
  ·exact bh fk λp=>aY _
 case and a b=>
  refine bh fk λp=>bh (aY _) λq=>?_
  induction q using aE
  ·exact aY _
  ·exact fk
 case or a b=>
  refine bh fk λp=>bh (aY _) λq=>?_
  induction q using aE
  ·exact fk
  ·exact aY _
 case ife c a b=>
  refine bh jW λp=>?_;obtain⟨q,H⟩:=p
  induction q using aE
  ·exact fk
  ·exact fk
 all_goals first
  | exact aY _
  | exact bh fk λp=>aY _
  | exact bh nM λp=>aY _
  | exact bh fk λp=>bh fk λp=>aY _
  | exact bh nM λp=>qP
set_option tactic.hygienic true in
theorem tB{d ls H}(c:E):Good λr=>mK r d ls H c:=by
 induction c using E.casesOn
 case not a=>exact me jW
 case and a b=>
  refine bh jW λp=>?_;obtain⟨q,H⟩:=p
  induction q using aE
  ·exact aY _
  ·exact jW
 case or a b=>
  refine bh jW λp=>?_;obtain⟨q,H⟩:=p
  induction q using aE
  ·exact jW
  ·exact aY _
 case ife c a b=>
  refine bh jW λp=>?_;obtain⟨q,H⟩:=p
  induction q using aE
  ·exact jW
  ·exact jW
 all_goals exact bh fk λp=>aY _
def ru{d ls H}(c:List E):Good λr=>oD r d ls H c:=by
 induction c using au
 ·exact aY _
 ·exact bh fk λp=>me nM
def tE{P:Pg}{d ls H v}(c:T):Good λr=>sE P r d ls H c v:=by
 cases c with
 | v i=>exact aY _
 | aT a f=>exact bh fk λp=>aY _
 | idx a b=>exact bh fk λp=>bh fk λp=>aY _
 | U ts=>cases v <;> first | exact uT | exact aY _
def rv{d ls H}(c:List T)(v:List AV):Good λr=>oE r d ls H c v:=by
 induction c using au <;> induction v using au
 ·exact aY _
 ·exact aY _
 ·exact aY _
 ·exact bh yj λp=>uT
set_option tactic.hygienic true in
theorem tC{d ls H}(c:S):Good λr=>pn r d ls H c:=by
 induction c using S.casesOn
 case aS t e=>exact bh fk λp=>me yj
 case ite c a b=>
  refine bh jW λp=>?_;obtain⟨q,H⟩:=p
  induction q using aE
  ·exact mE
  ·exact mE
 case «while» c b=>
  refine bh jW λp=>?_;obtain⟨q,H⟩:=p
  induction q using aE
  ·exact aY _
  ·refine bh mE λp=>?_;obtain⟨f,ls,H⟩:=p
   induction f using Fl.casesOn
   ·exact Af
   ·exact Af
   ·exact aY _
 case «for» t e b=>
  refine bh fk λp=>?_;rcases p with⟨x,H⟩
  try dsimp only
  split
  ·exact tF
  ·exact aY _
 case try_ b=>exact mE
 all_goals first
  | exact aY _
  | exact me fk
def rt{d ls H}(c:List S):Good λr=>oC r d ls H c:=by
 induction c using au
 ·exact aY _
 ·refine bh Af λp=>?_;obtain⟨f,ls,H⟩:=p
  induction f using Fl.casesOn
  ·exact mE
  ·exact aY _
  ·exact aY _
def oh{P:Pg}{d H f v}:Good λr=>iE P r d H f v:=by
 unfold iE
 split
 ·try dsimp only
  split
  ·refine bh mE λp=>aY _
  ·exact aY _
 ·exact aY _
def pT{d ls H i t b}:Good λr=>mz r d ls H i t b:=by
 refine bh (aY _) λo=>?_
 cases o using bb with
 | none=>exact aY _
 | some p=>
  refine bh (aY _) λl=>bh mE λp=>?_;obtain⟨f,ls,H⟩:=p
  induction f using Fl.casesOn
  ·exact tF
  ·exact tF
  ·exact aY _
def og{d ls H i t c x k}:Good λr=>kF r d ls H i t c x k:=by
 refine bh (aY _) λo=>?_
 cases o using bb with
 | none=>exact aY _
 | some p=>
  refine bh (aY _) λl=>bh ?_ λp=>?_
  ·induction c using bb
   ·exact aY _
   ·exact jW
  ·obtain⟨q,H⟩:=p
   induction q using aE
   ·exact qN
   ·exact bh fk λp=>bh (aY _) λp=>qN
def B7{P:Pg}{r r':Ev}(h:r.Le r'):(Ev.step P r).Le (Ev.step P r'):=
 ⟨λg=>(tD _).mono _ _ h _ g,λg=>(ru _).mono _ _ h _ g,λg=>(tB _).mono _ _ h _ g,λg=>(tC _).mono _ _ h _ g,λg=>(rt _).mono _ _ h _ g,λg=>(tE _).mono _ _ h _ g,λg=>(rv _ _).mono _ _ h _ g,λg=>oh.mono _ _ h _ g,λg=>pT.mono _ _ h _ g,λg=>og.mono _ _ h _ g⟩
def iF{α:Type}{a:α}{p:Prop}(h:(none:Option α)=some a):p:=by cases h
def Mc(r:Ev):Ev.bot.Le r:=⟨fun{zz zy zx zw zv} h=>iF h,fun{zz zy zx zw zv} h=>iF h,fun{zz zy zx zw zv} h=>iF h,fun{zz zy zx zw zv} h=>iF h,fun{zz zy zx zw zv} h=>iF h,fun{zz zy zx zw zv zu} h=>iF h,fun{zz zy zx zw zv zu} h=>iF h,fun{zz zy zx zw zv} h=>iF h,fun{zz zy zx zw zv zu zt} h=>iF h,fun{zz zy zx zw zv zu zt zs zr} h=>iF h⟩
def BE(P:Pg):∀n,(ev P n).Le (ev P (n+1))
 | 0=>Mc _
 | n+1=>B7 (BE P n)
def dJ(P:Pg):J5 (ev P):=λn m h=>by
 induction h with
 | refl=>exact .refl _
 | step zz ih=>exact ih.trans (BE P _)
abbrev R0:Ev:=NZ (ev P)
def om{α:Type}{F:Ev->Option α}{f:Nat->Option α}(hF:Good F)(h0:f 0=none)(h1:∀n,f (n+1)=F (ev P n))(hm:∀n m a,n<=m->f n=some a->f m=some a):Bw f=F R0:=by
 cases e:F R0 with
 | some a=>
  obtain⟨n,hn⟩:=hF.cont _ (dJ P) _ e;exact(ez hm).mpr ⟨n+1,(h1 n).trans hn⟩
 | none=>
  cases e2:Bw f with
  | none=>rfl
  | some a=>
   obtain⟨n,hn⟩:=(ez hm).mp e2;cases n with
   | zero=>rw[h0]at hn;cases hn
   | succ n=>
    rw[h1]at hn;have le:(ev P n).Le R0:=⟨λh=>(ez λn m a l h=>(dJ P n m l).e h).mpr ⟨n,h⟩,λh=>(ez λn m a l h=>(dJ P n m l).es h).mpr ⟨n,h⟩,λh=>(ez λn m a l h=>(dJ P n m l).t h).mpr ⟨n,h⟩,λh=>(ez λn m a l h=>(dJ P n m l).s h).mpr ⟨n,h⟩,λh=>(ez λn m a l h=>(dJ P n m l).ss h).mpr ⟨n,h⟩,λh=>(ez λn m a l h=>(dJ P n m l).asg h).mpr ⟨n,h⟩,λh=>(ez λn m a l h=>(dJ P n m l).asgs h).mpr ⟨n,h⟩,λh=>(ez λn m a l h=>(dJ P n m l).call h).mpr ⟨n,h⟩,λh=>(ez λn m a l h=>(dJ P n m l).for_ h).mpr ⟨n,h⟩,λh=>(ez λn m a l h=>(dJ P n m l).comp h).mpr ⟨n,h⟩⟩;have:=hF.mono _ _ le _ hn;rw[e]at this;cases this
def RU{d ls H c}:R0.e d ls H c=dO P R0 d ls H c:=om (tD c) rfl (λzz=>rfl) λn m a l h=>(dJ P n m l).e h
def PG{d ls H c}:R0.es d ls H c=oD R0 d ls H c:=om (ru c) rfl (λzz=>rfl) λn m a l h=>(dJ P n m l).es h
def RR{d ls H c}:R0.t d ls H c=mK R0 d ls H c:=om (tB c) rfl (λzz=>rfl) λn m a l h=>(dJ P n m l).t h
def RT{d ls H c}:R0.s d ls H c=pn R0 d ls H c:=om (tC c) rfl (λzz=>rfl) λn m a l h=>(dJ P n m l).s h
def PE{d ls H c}:R0.ss d ls H c=oC R0 d ls H c:=om (rt c) rfl (λzz=>rfl) λn m a l h=>(dJ P n m l).ss h
def MQ{d ls H c v}:R0.asg d ls H c v=sE P R0 d ls H c v:=om (tE c) rfl (λzz=>rfl) λn m a l h=>(dJ P n m l).asg h
def Jb{d ls H c v}:R0.asgs d ls H c v=oE R0 d ls H c v:=om (rv c v) rfl (λzz=>rfl) λn m a l h=>(dJ P n m l).asgs h
def Ja{d H f v}:R0.call d H f v=iE P R0 d H f v:=om oh rfl (λzz=>rfl) λn m a l h=>(dJ P n m l).call h
def MP{d ls H i t b}:R0.for_ d ls H i t b=mz R0 d ls H i t b:=om pT rfl (λzz=>rfl) λn m a l h=>(dJ P n m l).for_ h
def I9{d ls H i t c x k}:R0.comp d ls H i t c x k=kF R0 d ls H i t c x k:=om og rfl (λzz=>rfl) λn m a l h=>(dJ P n m l).comp h
def I8{d H f v a}(h:R0.call d H f v=some a):∃n,(ev P n).call d H f v=some a:=(ez λn m a l h=>(dJ P n m l).call h).mp h
@[irreducible] noncomputable def R:Ev:=R0
def tZ:R=R0:=by delta R;rfl
def o8{d ls H c}:R.e d ls H c=dO P R d ls H c:=by erw [tZ];exact RU
def MM{d ls H c}:R.es d ls H c=oD R d ls H c:=by erw [tZ];exact PG
def MK{d ls H c}:R.t d ls H c=mK R d ls H c:=by erw [tZ];exact RR
def C9{d ls H c}:R.s d ls H c=pn R d ls H c:=by erw [tZ];exact RT
def Gc{d ls H c}:R.ss d ls H c=oC R d ls H c:=by erw [tZ];exact PE
def yR{d ls H c v}:R.asg d ls H c v=sE P R d ls H c v:=by erw [tZ];exact MQ
def AH{d ls H c v}:R.asgs d ls H c v=oE R d ls H c v:=by erw [tZ];exact Jb
def MN{d H f v}:R.call d H f v=iE P R d H f v:=by erw [tZ];exact Ja
def BY{d ls H i t b}:R.for_ d ls H i t b=mz R d ls H i t b:=by erw [tZ];exact MP
def t4{d ls H i t c x k}:R.comp d ls H i t c x k=kF R d ls H i t c x k:=by erw [tZ];exact I9
def ML{d H f v a}(h:R.call d H f v=some a):∃n,(ev P n).call d H f v=some a:=by rw[tZ]at h;exact I8 h
noncomputable abbrev aP(d:Nat)(H:Hp)(f:Nat)(vs:List AV)(r:AV×Hp):Prop:=R.call d H f vs=some r
noncomputable abbrev Re(d:Nat)(ls:Ls)(H:Hp)(a:E)(r:AV×Hp):Prop:=R.e d ls H a=some r
noncomputable abbrev vl(d:Nat)(ls:Ls)(H:Hp)(a:List E)(r:List AV×Hp):Prop:=R.es d ls H a=some r
noncomputable abbrev Rt(d:Nat)(ls:Ls)(H:Hp)(a:E)(r:Bool×Hp):Prop:=R.t d ls H a=some r
noncomputable abbrev Rs(d:Nat)(ls:Ls)(H:Hp)(a:S)(r:Fl×Ls×Hp):Prop:=R.s d ls H a=some r
noncomputable abbrev gH(d:Nat)(ls:Ls)(H:Hp)(a:List S)(r:Fl×Ls×Hp):Prop:=R.ss d ls H a=some r
noncomputable abbrev wH(d:Nat)(ls:Ls)(H:Hp)(t:T)(v:AV)(r:Ls×Hp):Prop:=R.asg d ls H t v=some r
noncomputable abbrev vm(d:Nat)(ls:Ls)(H:Hp)(t:List T)(v:List AV)(r:Ls×Hp):Prop:=R.asgs d ls H t v=some r
noncomputable abbrev lL(d:Nat)(ls:Ls)(H:Hp)(i:It)(t:PT)(b:List S)(r:Fl×Ls×Hp):Prop:=R.for_ d ls H i t b=some r
noncomputable abbrev lM(d:Nat)(ls:Ls)(H:Hp)(i:It)(t:PT)(c:Option E)(a:E)(k:Nat)(r:Hp):Prop:=R.comp d ls H i t c a k=some r
noncomputable abbrev Hk(H:Hp)(k:Nat)(c:Cell):Prop:=H[k]? =some c
end
section
mutual
variable{vs args:List AV}{r:AV×Hp}{k f i m:Nat}{it it':It}{t pt:PT}{fs:List (Nat×AV)}{q:Bool}{s:List Nat}{α β:Type}
variable{d:Nat}{ls ls' bA:Ls}{H aq aO dK H':Hp}{a b c:E}{x y z v:AV}
def bo{x:Option α}{f:α->Option β}{a:α}{r:Option β}(h:x=some a)(k:f a=r):x.bind f=r:=by erw [h];exact k
def mo{x:Option α}{f:α->β}{a:α}(h:x=some a):x.map f=some (f a):=by erw [h];rfl
def az:Re d ls H (.lit v) (v,H):=o8
def ah(h:ls[i]? =some (some v)):Re d ls H (.v i) (v,H):=o8.trans (by show(match ls[i]? with | some (some v)=>some (v,H) | _=>none)=_;erw [h];rfl)
def bS{o:O2}(ha:Re d ls H a (x,aq))(hb:Re d ls aq b (y,aO))(h:nW o x y aO=some r):Re d ls H (.o o a b) r:=o8.trans (bo ha (bo hb h))
def pZ{i:Int}(ha:Re d ls H a (.int i,aq)):Re d ls H (.neg a) (.int (-i),aq):=o8.trans (bo ha rfl)
def dw{o:CO}(ha:Re d ls H a (x,aq))(hb:Re d ls aq b (y,aO))(h:iI aO o x y=some q):Re d ls H (.j o a b) (.bool q,aO):=o8.trans (bo ha (bo hb (mo h)))
def BG(ha:Re d ls H a (.bool true,aq))(hb:Re d ls aq b r):Re d ls H (.and a b) r:=o8.trans (bo ha (bo (a:=true) rfl hb))
def LX(ha:Re d ls H a (.bool true,aq)):Re d ls H (.or a b) (.bool true,aq):=o8.trans (bo ha (bo (a:=true) rfl rfl))
def Am(ha:Re d ls H a (.bool false,aq))(hb:Re d ls aq b r):Re d ls H (.or a b) r:=o8.trans (bo ha (bo (a:=false) rfl hb))
def eW(ha:Rt d ls H c (true,aq))(hb:Re d ls aq a r):Re d ls H (.ife c a b) r:=o8.trans (bo ha hb)
def fz(ha:Rt d ls H c (false,aq))(hb:Re d ls aq b r):Re d ls H (.ife c a b) r:=o8.trans (bo ha hb)
def IQ{c:Nat}(hk:Hk H k (.n c fs))(hf:wQ P c f=true)(hg:jw f fs=some v):vf P H (.ref k) f=some v:=bo hk (by show eU (wQ P c f) (jw f fs)=_;erw [hf];exact hg)
def c9{c:Nat}(ha:Re d ls H a (.ref k,aq))(hk:Hk aq k (.n c fs))(hf:wQ P c f=true)(hg:jw f fs=some v):Re d ls H (.aT a f) (v,aq):=o8.trans (bo ha (mo (IQ hk hf hg)))
def dC(ha:Re d ls H a (x,aq))(hb:Re d ls aq b (y,aO))(h:rN aO x y=some v):Re d ls H (.idx a b) (v,aO):=o8.trans (bo ha (bo hb (mo h)))
def kX(ha:Re d ls H a (x,aq))(hb:Re d ls aq b (y,aO))(h:iw x none (some y) aO=some r):Re d ls H (.slice a none (some b)) r:=o8.trans (bo ha (bo rfl (bo (mo hb) h)))
def oS(ha:Re d ls H a (x,aq))(hb:Re d ls aq b (y,aO))(h:iw x (some y) none aO=some r):Re d ls H (.slice a (some b) none) r:=o8.trans (bo ha (bo (mo hb) (bo rfl h)))
def jy(ha:Re d ls H a (x,aq))(hb:Re d ls aq b (y,aO))(hc:Re d ls aO c (z,dK))(h:iw x (some y) (some z) dK=some r):Re d ls H (.slice a (some b) (some c)) r:=o8.trans (bo ha (bo (mo hb) (bo (mo hc) h)))
def bg{as:List E}(hs:vl d ls H as (vs,aq))(h:aP d aq f vs r):Re d ls H (.call f as) r:=o8.trans (bo hs h)
def gG{as:List E}{C:Cls}(hs:vl d ls H as (vs,aq))(hC:P.clss[i]? =some C)(h:aP d (aq++ [.n i []]) C.init (.ref aq.length::vs) (.none,aO)):Re d ls H (.new i as) (.ref aq.length,aO):=o8.trans (bo hs (bo hC (bo h rfl)))
def eH{f:BI}{as:List E}(hs:vl d ls H as (vs,aq))(h:BR f vs aq=some r):Re d ls H (.bi f as) r:=o8.trans (bo hs h)
def iY{k:IK}(ha:Re d ls H a (x,aq))(h:kh P aq k x=some q):Re d ls H (.h a k) (.bool q,aq):=o8.trans (bo ha (mo h))
def Hw{c:Nat}{C:Cls}(hk:Hk H k (.n c fs))(hg:jw m fs=none)(hC:P.clss[c]? =some C)(hm:C.meths.lookup m=some f):kO P H (.ref k) m=some f:=bo hk (by show(match jw m fs with | none=>(P.clss[c]?).bind λC=>C.meths.lookup m | some zz=>none)=_;erw [hg];exact bo hC hm)
def gC{c:Nat}{as:List E}{C:Cls}(ha:Re d ls H a (.ref k,aq))(hk:Hk aq k (.n c fs))(hg:jw m fs=none)(hC:P.clss[c]? =some C)(hm:C.meths.lookup m=some f)(hs:vl d ls aq as (vs,aO))(h:aP d aO f (.ref k::vs) r):Re d ls H (.meth a m as) r:=
 o8.trans (bo ha (by try dsimp only;erw [Hw hk hg hC hm];exact bo hs h))
def r5{as:List E}(ha:Re d ls H a (x,aq))(hn:kO P aq x m=none)(hp:j9 aq x m=true)(hs:vl d ls aq as (vs,aO))(h:kM x m vs aO=some r):Re d ls H (.meth a m as) r:=
 o8.trans (bo ha (by try dsimp only;erw [hn,hp];exact bo hs h))
def fK{as:List E}(hs:vl d ls H as (vs,aq))(hr:cF vs.length=true):Re d ls H (.list as) (.ref aq.length,aq++ [.list vs]):=o8.trans (bo hs (by show eU (cF vs.length) _=_;erw [hr];rfl))
def gQ{as:List E}(hs:vl d ls H as (vs,aq))(hr:cF vs.length=true):Re d ls H (.U as) (.U vs,aq):=o8.trans (bo hs (by show eU (cF vs.length) _=_;erw [hr];rfl))
def Iu:Re d ls H .dict0 (.ref H.length,H++ [.dict []]):=o8
def CV(ha:Re d ls H a (.str s,aq))(hb:Re d ls aq b (.ref k,aO))(hk:aD aO k=some vs)(h:j2 s vs.reverse=some v):Re d ls H (.joinrev a b) (v,aO):=o8.trans (bo ha (bo hb (show((aD aO k).bind λvs=>(j2 s vs.reverse).map (·,aO))=_ from bo hk (mo h))))
def OX{p z1 z2:List Nat}{y1 y2:Nat}(ha:Re d ls H a (x,aq))(h:Fh p x y1 z1 y2 z2=some v):Re d ls H (.esc p a y1 z1 y2 z2) (v,aq):=o8.trans (bo ha (mo h))
def LY{t:List (Int×List Nat)}{i:Int}(ha:Re d ls H a (.int i,aq))(hb:Re d ls aq b (.str s,aO)):Re d ls H (.dget t a b) (.str ((t.lookup i).getD s),aO):=o8.trans (bo ha (bo hb rfl))
def kY{cnd:Option E}(hf:eV ls pt=true)(ha:Re d ls H a (x,aq))(hi:gA aq x=some it)(h:lM d ls (aq++ [.list []]) it pt cnd b aq.length aO):Re d ls H (.comp b pt a false cnd) (.ref aq.length,aO):=o8.trans (by show(match eV ls pt with | false=>none | true=>_)=_;erw [hf];exact bo ha (bo hi (mo h)))
def Iv{cnd:Option E}(hf:eV ls pt=true)(ha:Re d ls H a (.str s,aq))(h:lM d ls (aq++ [.list []]) (.enum 0 s) pt cnd b aq.length aO):Re d ls H (.comp b pt a true cnd) (.ref aq.length,aO):=o8.trans (by show(match eV ls pt with | false=>none | true=>_)=_;erw [hf];exact bo ha (bo rfl (mo h)))
def ao:vl d ls H [] ([],H):=MM
def ak{as:List E}(ha:Re d ls H a (x,aq))(hs:vl d ls aq as (vs,aO)):vl d ls H (a::as) (x::vs,aO):=MM.trans (bo ha (mo hs))
def uy(h:Rt d ls H a (q,aq)):Rt d ls H (.not a) (!q,aq):=MK.trans (mo h)
def pj(h:Rt d ls H a (false,aq)):Rt d ls H (.and a b) (false,aq):=MK.trans (bo h rfl)
def mx{r:Bool×Hp}(h:Rt d ls H a (true,aq))(h':Rt d ls aq b r):Rt d ls H (.and a b) r:=MK.trans (bo h h')
def zb(h:Rt d ls H a (true,aq)):Rt d ls H (.or a b) (true,aq):=MK.trans (bo h rfl)
def iP{r:Bool×Hp}(h:Rt d ls H a (false,aq))(h':Rt d ls aq b r):Rt d ls H (.or a b) r:=MK.trans (bo h h')
def gE(hc:md c=false)(h:Re d ls H c (.bool q,aq)):Rt d ls H c (q,aq):=MK.trans (by
 have:mK R d ls H c=(R.e d ls H c).bind fun(x,H)=>(gW x).map λb=>(b,H):=by induction c using E.casesOn <;> first | rfl | exact nomatch hc
 erw [this];exact bo h rfl)
def ba:gH d ls H [] (.next,ls,H):=Gc
def aB{s:S}{ss:List S}{r:Fl×Ls×Hp}(h:Rs d ls H s (.next,bA,aq))(h':gH d bA aq ss r):gH d ls H (s::ss) r:=Gc.trans (bo h h')
def eP{s:S}{ss:List S}(h:Rs d ls H s (.ret v,bA,aq)):gH d ls H (s::ss) (.ret v,bA,aq):=Gc.trans (bo h rfl)
def pz{s:S}{ss:List S}(h:Rs d ls H s (.cont,bA,aq)):gH d ls H (s::ss) (.cont,bA,aq):=Gc.trans (bo h rfl)
def sO(h:Re d ls H a (v,aq)):Rs d ls H (.expr a) (.next,ls,aq):=C9.trans (mo h)
def kH(h:Re d ls H a (v,aq)):Rs d ls H (.ret a) (.ret v,ls,aq):=C9.trans (mo h)
def KG:Rs d ls H .retn (.ret .none,ls,H):=C9
def iT{t:T}(h:Re d ls H a (v,aq))(h':wH d ls aq t v (bA,aO)):Rs d ls H (.aS t a) (.next,bA,aO):=C9.trans (bo h (mo h'))
def ff{p q:List S}{r:Fl×Ls×Hp}(h:Rt d ls H c (true,aq))(h':gH d ls aq p r):Rs d ls H (.ite c p q) r:=C9.trans (bo h h')
def cU{p q:List S}{r:Fl×Ls×Hp}(h:Rt d ls H c (false,aq))(h':gH d ls aq q r):Rs d ls H (.ite c p q) r:=C9.trans (bo h h')
def eR{p:List S}(h:Rt d ls H c (false,aq)):Rs d ls H (.while c p) (.next,ls,aq):=C9.trans (bo h rfl)
def eQ{p:List S}{r:Fl×Ls×Hp}(h:Rt d ls H c (true,aq))(h':gH d ls aq p (.next,bA,aO))(k:Rs d bA aO (.while c p) r):Rs d ls H (.while c p) r:=C9.trans (bo h (bo h' k))
def uD{p:List S}{r:Fl×Ls×Hp}(h:Rt d ls H c (true,aq))(h':gH d ls aq p (.cont,bA,aO))(k:Rs d bA aO (.while c p) r):Rs d ls H (.while c p) r:=C9.trans (bo h (bo h' k))
def lZ{p:List S}(h:Rt d ls H c (true,aq))(h':gH d ls aq p (.ret v,bA,aO)):Rs d ls H (.while c p) (.ret v,bA,aO):=C9.trans (bo h (bo h' rfl))
def mL{p:List S}{r:Fl×Ls×Hp}(h:Re d ls H a (x,aq))(hi:gA aq x=some it)(k:lL d ls aq it t p r):Rs d ls H (.for t a p) r:=C9.trans (bo h (by try dsimp only;erw [hi];exact k))
def A8:Rs d ls H .cont (.cont,ls,H):=C9
def eh(h:cf i ls.length=true):wH d ls H (.v i) v (ls.set i (some v),H):=yR.trans (by show(jg ls i v).map _=_;unfold jg;erw [h];rfl)
def zA{c:Nat}(hk:Hk H k (.n c fs))(hf:wQ P c f=true)(hl:cf fs.length 20=true):lY P H (.ref k) f v=some (H.set k (.n c (oH f v fs))):=bo hk (by show eU (wQ P c f && cf fs.length 20) _=_;erw [hf,hl];rfl)
def jC{c:Nat}(ha:Re d ls H a (.ref k,aq))(hk:Hk aq k (.n c fs))(hf:wQ P c f=true)(hl:cf fs.length 20=true):wH d ls H (.aT a f) v (ls,aq.set k (.n c (oH f v fs))):=yR.trans (bo ha (mo (zA hk hf hl)))
def FX(ha:Re d ls H a (x,aq))(hb:Re d ls aq b (y,aO))(h:mW aO x y v=some dK):wH d ls H (.idx a b) v (ls,dK):=yR.trans (bo ha (bo hb (mo h)))
def mm{ts:List T}{r:Ls×Hp}(h:vm d ls H ts vs r):wH d ls H (.U ts) (.U vs) r:=yR.trans h
def jB:vm d ls H [] [] (ls,H):=AH
def di{t:T}{ts:List T}{r:Ls×Hp}(h:wH d ls H t v (bA,aq))(h':vm d bA aq ts vs r):vm d ls H (t::ts) (v::vs) r:=AH.trans (bo h h')
def Ay{F:Fn}(hF:P.fns[f]? =some F)(hv:args++F.dfl.drop (F.dfl.length-(F.np-args.length))=vs)(hl:(vs.length==F.np)=true):R.call (d+1) H f args=(R.ss d (vs.map some++cC (F.nl-F.np) none) H F.body).bind fun(fl,zz,H)=>match fl with
 | .ret v=>some (v,H)
 | .next=>some (.none,H)
 | .cont=>none:=MN.trans (by
 subst hv;unfold iE
 erw [hF]
 try dsimp only
 erw [hl]
 try rfl)
def bx{F:Fn}(hF:P.fns[f]? =some F)(hv:args++F.dfl.drop (F.dfl.length-(F.np-args.length))=vs)(hl:(vs.length==F.np)=true)(h:gH d (vs.map some++cC (F.nl-F.np) none) H F.body (.ret v,ls',H')):aP (d+1) H f args (v,H'):=(Ay hF hv hl).trans (bo h rfl)
def fB{F:Fn}(hF:P.fns[f]? =some F)(hv:args++F.dfl.drop (F.dfl.length-(F.np-args.length))=vs)(hl:(vs.length==F.np)=true)(h:gH d (vs.map some++cC (F.nl-F.np) none) H F.body (.next,ls',H')):aP (d+1) H f args (.none,H'):=(Ay hF hv hl).trans (bo h rfl)
def iH{p:List S}(h:it.next H=some none):lL d ls H it t p (.next,ls,H):=BY.trans (bo h rfl)
def fq{p:List S}{r:Fl×Ls×Hp}(h:it.next H=some (some (v,it')))(hb:jc H ls t v=some bA)(h':gH d bA H p (.next,ls',aq))(k:lL d ls' aq it' t p r):lL d ls H it t p r:=BY.trans (bo h (bo hb (bo h' k)))
def Bz{p:List S}(h:it.next H=some (some (v,it')))(hb:jc H ls t v=some bA)(h':gH d bA H p (.ret x,ls',aq)):lL d ls H it t p (.ret x,ls',aq):=BY.trans (bo h (bo hb (bo h' rfl)))
def gn{cnd:Option E}(h:it.next H=some none):lM d ls H it t cnd a k H:=t4.trans (bo h rfl)
def AD(hk:Hk H k (.list vs))(hr:cF vs.length=true):kM (.ref k) 0 [x] H=some (.none,H.set k (.list (vs++ [x]))):=bo hk (by show eU (cF vs.length) (some (AV.none,H.set k (.list (vs++ [x]))))=_;erw [hr];rfl)
def iZ{r:Option Hp}(h:it.next H=some (some (v,it')))(hb:jc H ls t v=some bA)(h':Re d bA H a (x,aq))(hk:Hk aq k (.list vs))(hr:cF vs.length=true)(h2:R.comp d bA (aq.set k (.list (vs++ [x]))) it' t none a k=r):R.comp d ls H it t none a k=r:=t4.trans (bo h (bo hb (bo rfl (bo h' (bo (AD hk hr) h2)))))
def As{r:Option Hp}(h:it.next H=some (some (v,it')))(hb:jc H ls t v=some bA)(hc:Rt d bA H c (true,aq))(h':Re d bA aq a (x,aO))(hk:Hk aO k (.list vs))(hr:cF vs.length=true)(h2:R.comp d bA (aO.set k (.list (vs++ [x]))) it' t (some c) a k=r):R.comp d ls H it t (some c) a k=r:=t4.trans (bo h (bo hb (bo hc (bo h' (bo (AD hk hr) h2)))))
def u0{r:Option Hp}(h:it.next H=some (some (v,it')))(hb:jc H ls t v=some bA)(hc:Rt d bA H c (false,aq))(h2:R.comp d bA aq it' t (some c) a k=r):R.comp d ls H it t (some c) a k=r:=t4.trans (bo h (bo hb (bo hc h2)))
end
end
section
mutual
variable{i f:Nat}{vs:List AV}{k:Bool}{fs:List (Nat×AV)}
variable{d:Nat}{ls ls' bA:Ls}{H aq aO dK H':Hp}{a b c:E}{x y z v w:AV}{ss p q:List S}{r:Fl×Ls×Hp}
def cK(h:Re d ls H a (v,aq))(hi:cf i ls.length=true)(k:gH d (ls.set i (some v)) aq ss r):gH d ls H (.aS (.v i) a::ss) r:=aB (iT h (eh hi)) k
def lP{t:T}(h:Re d ls H a (v,aq))(h':wH d ls aq t v (bA,aO))(k:gH d bA aO ss r):gH d ls H (.aS t a::ss) r:=aB (iT h h') k
def ie(h:Rt d ls H c (false,aq))(k:gH d ls aq ss r):gH d ls H (.ite c p []::ss) r:=aB (cU h ba) k
def uv(h:Re d ls H a (v,aq))(k:gH d ls aq ss r):gH d ls H (.expr a::ss) r:=aB (sO h) k
def fx(h:Re d ls H a (v,aq)):gH d ls H (.ret a::ss) (.ret v,ls,aq):=eP (kH h)
def mu(h:Rt d ls H c (true,aq))(h':gH d ls aq p (.ret v,bA,aO)):gH d ls H (.ite c p q::ss) (.ret v,bA,aO):=eP (ff h h')
def RZ(h:Rt d ls H c (false,aq))(h':gH d ls aq q (.ret v,bA,aO)):gH d ls H (.ite c p q::ss) (.ret v,bA,aO):=eP (cU h h')
def gN{o:CO}(ha:Re d ls H a (x,aq))(hb:Re d ls aq b (y,aO))(h:iI aO o x y=some k):Rt d ls H (.j o a b) (k,aO):=gE rfl (dw ha hb h)
def cS{o:CO}(h0:ls[i]? =some (some x))(h:iI H o x y=some k):Rt d ls H (.j o (.v i) (.lit y)) (k,H):=gE rfl (dw (ah h0) az h)
def mv{as:List E}(hs:vl d ls H as (vs,aq))(h:aP d aq f vs (.bool k,aO)):Rt d ls H (.call f as) (k,aO):=gE rfl (bg hs h)
def cB{k c:Nat}(h0:ls[i]? =some (some (.ref k)))(hk:Hk H k (.n c fs))(hf:wQ P c f=true)(hg:jw f fs=some v):Re d ls H (.aT (.v i) f) (v,H):=c9 (ah h0) hk hf hg
def i4{m k c:Nat}{as:List E}{o:AV×Hp}{C:Cls}(h0:ls[i]? =some (some (.ref k)))(hk:Hk H k (.n c fs))(hg:jw m fs=none)(hC:P.clss[c]? =some C)(hm:C.meths.lookup m=some f)(hs:vl d ls H as (vs,aO))(h:aP d aO f (.ref k::vs) o):Re d ls H (.meth (.v i) m as) o:=gC (ah h0) hk hg hC hm hs h
def bV{as:List E}(h0:ls[i]? =some (some x))(hs:vl d ls H as (vs,aO)):vl d ls H (.v i::as) (x::vs,aO):=ak (ah h0) hs
def gR{as:List E}(hs:vl d ls H as (vs,aO)):vl d ls H (.lit x::as) (x::vs,aO):=ak az hs
end
end
end Mine.Internal
end
section
open PySem
namespace Mine.Internal
mutual
variable{c':Cell}{aq:Hp}{ok':Nat->Prop}{j l:Nat}{u s':List Nat}{α:Type}
def lC{H:Hp}{c:Cell}:(H++ [c]).set H.length c'=H++ [c']:=by simp
def aU{H:Hp}{c:Cell}:Hk (H++ [c]) (H.length) c:=by show(_:Option Cell)=_;simp
def bC{H:Hp}{c:Cell}{k:Nat}(h:Hk H k c):Hk (H++ [c']) k c:=by
 show(_:Option Cell)=_;erw [dj (aT.mp h).1];exact h
def dT{p:Prop} [Decidable p](h:p):some (decide p)=some true:=congrArg some (decide_eq_true h)
def dF{p:Prop} [Decidable p](h:¬ p):some (decide p)=some false:=congrArg some (decide_eq_false h)
def nT{p:Prop} [Decidable p](h:¬ p):(some (decide p)).map (!·)=some true:=by erw [decide_eq_false h];rfl
def nF{p:Prop} [Decidable p](h:p):(some (decide p)).map (!·)=some false:=by erw [decide_eq_true h];rfl
def dS{d:Nat}{ls:Ls}{H:Hp}{a:E}{v:AV}{c f:Nat}{fs:List (Nat×AV)}(h0:ls[0]? =some (some (.ref H.length)))(h:Re d ls (H++ [.n c fs]) a (v,H++ [.n c fs]))(hf:wQ P c f=true)(hl:cf fs.length 20=true):
  Rs d ls (H++ [.n c fs]) (.aS (.aT (.v 0) f) a) (.next,ls,H++ [.n c (oH f v fs)]):=lC (H:=H) (c:= .n c fs) (c':= .n c (oH f v fs)) ▸iT h (jC (ah h0) aU hf hl)
end
section
mutual
variable{k:Nat}{m e:Int}
variable{d:Nat}{ls:Ls}{H aq:Hp}
def Uo{i:Int}:aP (d+1) H 30 [.int i] (.int (yK (decide (0<i))-yK (decide (i<0))),H):=bx (F:=SM) rfl rfl rfl (fx (bS (dw (ah rfl) az rfl) (dw (ah rfl) az rfl) rfl))
def Rv(hk:Hk H k (.n 16 [(30, .int m),(31, .int e)])):aP (d+2) H 39 [.ref k] (.int (yK (decide (0<m))-yK (decide (m<0))),H):=bx (F:=SL) rfl rfl rfl (fx (bg (ak (cB rfl hk rfl rfl) ao) Uo))
def Tg{a b:AV}:aP (d+1) (H++ [.n 16 []]) 27 [.ref H.length,a,b] (.none,H++ [.n 16 [(30,a),(31,b)]]):=fB (F:=SO) rfl rfl rfl (aB (dS rfl (ah rfl) rfl rfl) (aB (dS rfl (ah rfl) rfl rfl) ba))
def Un(hk:Hk H k (.n 16 [(30, .int m),(31, .int e)])):aP (d+2) H 40 [.ref k] (.ref H.length,H++ [.n 16 [(30, .int (m.natAbs:Int)),(31, .int e)]]):=bx (F:=SK) rfl rfl rfl (fx (gG (ak (eH (ak (cB rfl hk rfl rfl) ao) rfl) (ak (cB rfl hk rfl rfl) ao)) rfl Tg))
end
end
mutual
set_option genInjectivity true in
inductive D where
 | bool (b:Bool)
 | int (i:Int)
 | empty
 | ratio (p q:Int)
 | real (m e:Int)
 | sym (s:List Nat)
 | char (c:Nat)
 | text (cs:List Nat)
 | vec (a b:D)
 | pair (a b:D)
abbrev D.ctorIdx(x:D):Nat:=D.casesOn x (λzz=>0) (λzz=>1) 2 (λzz zy=>3) (λzz zy=>4) (λzz=>5) (λzz=>6) (λzz=>7) (λzz zy=>8) (λzz zy=>9)
abbrev gI(ok:Nat->Prop)(H:Hp)(v:AV):D->Prop
 | .bool b=>v= .bool b
 | .int i=>v= .int i
 | .empty=>v= .obj 0
 | .ratio p q=> ∃k,v= .ref k/\ok k/\Hk H k (.n 17 [(32, .int p),(33, .int q)])
 | .real m e=> ∃k,v= .ref k/\ok k/\Hk H k (.n 16 [(30, .int m),(31, .int e)])
 | .sym s=> ∃k n,v= .ref k/\ok k/\Hk H k (.n 1 [(12, .int n),(13, .str s)])
 | .char c=> ∃k,v= .ref k/\ok k/\Hk H k (.n 4 [(18, .int c)])
 | .text cs=> ∃k l,v= .ref k/\ok k/\Hk H k (.n 5 [(19, .ref l)])/\ok l/\Hk H l (.list (cs.map λc:Nat=> .int c))
 | .vec a b=> ∃k l x y,v= .ref k/\ok k/\Hk H k (.n 6 [(20, .ref l)])/\ok l/\Hk H l (.list [x,y])/\gI ok H x a/\gI ok H y b
 | .pair a b=> ∃k x y,v= .ref k/\ok k/\Hk H k (.n 3 [(16,x),(17,y)])/\gI ok H x a/\gI ok H y b
structure Keep(ok:Nat->Prop)(H H':Hp):Prop where
 len:H.length<=H'.length
 at_:∀k c,ok k->Hk H k c->Hk H' k c
abbrev all:Nat->Prop:=λzz=>True
def Keep.refl{ok:Nat->Prop}{H:Hp}:Keep ok H H:=⟨aw _,λzz zy zx h=>h⟩
def Keep.trans{ok:Nat->Prop}{H aO:Hp}(a:Keep ok H aq)(b:Keep ok aq aO):Keep ok H aO:=⟨aj a.len b.len,λk c o h=>b.at_ k c o (a.at_ k c o h)⟩
def Keep.weak{ok:Nat->Prop}{H H':Hp}(h:∀k,ok' k->ok k)(a:Keep ok H H'):Keep ok' H H':=⟨a.len,λk c o=>a.at_ k c (h k o)⟩
def Keep.app{ok:Nat->Prop}{H L:Hp}:Keep ok H (H++L):=⟨by erw [af];exact bu _ _,λk c zz h=>by show(_:Option Cell)=_;erw [dj (aT.mp h).1];exact h⟩
def Keep.set{ok:Nat->Prop}{H:Hp}{k:Nat}{c:Cell}(h:¬ ok k):Keep ok H (H.set k c):=⟨by erw [iM];exact aw _,λj x o e=>by show(_:Option Cell)=_;erw [(mr (λq:k=j=>h (by erw [q];exact o)))];exact e⟩
def gI.mono{ok:Nat->Prop}{H H':Hp}(g:∀k c,ok k->Hk H k c->ok' k/\Hk H' k c)(d:D):∀(v:AV),gI ok H v d->gI ok' H' v d:=by
 have one:∀{k:Nat} {c:Cell},ok k/\Hk H k c->ok' k/\Hk H' k c:=λxq1=>Nf xq1 λo e=>g _ _ o e
 induction d with
 | bool zz=>exact λzz r=>r
 | int zz=>exact λzz r=>r
 | empty=>exact λzz r=>r
 | ratio zz zy=>exact λzz xq2=>aL xq2 λk e r=>(bH k e (one r))
 | real zz zy=>exact λzz xq3=>aL xq3 λk e r=>(bH k e (one r))
 | sym zz=>exact λzz xq4=>gy xq4 λk n e r=>(kS k n e (one r))
 | char zz=>exact λzz xq5=>aL xq5 λk e r=>(bH k e (one r))
 | text zz=>exact λzz xq6=>fy xq6 λk l e o c r=>(d0 k l e ((g k _ o c).1) ((g k _ o c).2) (one r))
 | vec a b ia ib=>
  intro v r;refine Gk r λk l x y e o c o' c' r r'=>?_;exact HP k l x y e ((g k _ o c).1) ((g k _ o c).2) ((g l _ o' c').1) ((g l _ o' c').2) (ia x r) (ib y r')
 | pair a b ia ib=>
  intro v r;refine jT r λk x y e o c r r'=>?_;exact iR k x y e ((g k _ o c).1) ((g k _ o c).2) (ia x r) (ib y r')
def gI.keep{ok:Nat->Prop}{H H':Hp}(g:Keep ok H H'){d:D}{v:AV}(r:gI ok H v d):gI ok H' v d:=r.mono (λk c o e=>⟨o,g.at_ k c o e⟩) d v
abbrev gZ(c:Nat):List Nat:= [35,92]++(if c=32 then [115,112,97,99,101]else if c=10 then [110,101,119,108,105,110,101]else [c])
abbrev cA:List Nat->List Nat
 | []=> []
 | c::r=>if c=34\/c=92 then 92::c::cA r else c::cA r
abbrev fP(m e:Int):List Nat:=if m=1/\e= -1 then [48,46,53]else if m=3 then [49,46,53]else if m= -5 then [45,49,46,50,53]else if m=0 then [48,46,48]else if m=25 then [49,48,48,46,48]else [48,46,48,54,50,53]
abbrev Dg(w:Bool):D->List Nat×List Nat
 | .bool b=>dotted [35,if b then 116 else 102]
 | .int i=>dotted (dG i)
 | .empty=>([40,41],[41])
 | .ratio p q=>dotted (dG p++ [47]++dG q)
 | .real m e=>dotted (fP m e)
 | .sym s=>dotted s
 | .char c=>dotted (if w then gZ c else [c])
 | .text cs=>dotted (if w then [34]++cA cs++ [34]else cs)
 | .vec a b=>dotted ([35,40]++(Dg w a).1++ [32]++(Dg w b).1++ [41])
 | .pair a b=>([40]++(Dg w a).1++(Dg w b).2,[32]++(Dg w a).1++(Dg w b).2)
where dotted (t:List Nat):List Nat×List Nat:=(t,[32,46,32]++t++ [41])
abbrev tx(w:Bool)(d:D):List Nat:=(Dg w d).1
abbrev tl(w:Bool)(d:D):List Nat:=(Dg w d).2
end
section
mutual
variable{k:Nat}{vs:List AV}{c:Cell}
variable{d:Nat}{ls bA:Ls}{H aq aO H':Hp}{a b:E}{v x y:AV}
def aM{n:Nat}(h:n<=1000000):cF n=true:=by unfold cF;exact rQ h
def ft{us:List AV}(ha:Re d ls H a (.ref k,aq))(h1:Hk aq k (.list us))(hb:Re d ls aq b (v,aO))(h2:Hk aO k (.list vs))(hr:cF vs.length=true):Re d ls H (.meth a 0 [b]) (.none,aO.set k (.list (vs++ [v]))):=
 r5 ha (bo h1 rfl) (by show lE 0 aq[k]? =true;erw [h1];rfl) (ak hb ao) (AD h2 hr)
def JN(ha:Re d ls H a (.ref k,aq))(h1:Hk aq k (.list (vs++ [v])))(hr:cF (vs++ [v]).length=true):Re d ls H (.meth a 1 []) (v,aq.set k (.list vs)):=
 r5 ha (bo h1 rfl) (by show lE 1 aq[k]? =true;erw [h1];rfl) ao (bo h1 (by show eU (cF (vs++ [v]).length) (((vs++ [v]).getLast?).map λx=>(x,aq.set k (.list (vs++ [v]).dropLast)))=_;erw [hr];simp[eU]))
def oR{m:Nat}{s:List Nat}{as:List E}{r:AV×Hp}(ha:Re d ls H a (.str s,aq))(hm:(dm 4 m && dm m 10)=true)(hs:vl d ls aq as (vs,aO))(h:uc s m vs aO=some r):Re d ls H (.meth a m as) r:=r5 ha rfl hm hs h
def bY{c:Nat}{fs:List (Nat×AV)}{i:IK}(h:Hk H k (.n c fs)):kh P H i (.ref k)=some (Cx i c):=bo h rfl
def cO(h:k<H.length):Hk (H.set k c) k c:=by show(_:Option Cell)=_;erw [k8 h];rfl
def cW{j:Nat}{c':Cell}(hne:k≠j)(h:Hk H j c):Hk (H.set k c') j c:=by show(_:Option Cell)=_;erw [mr hne];exact h
def bw(h:Hk H k c):k<H.length:=(aT.mp h).1
end
end
mutual
structure Pr(H:Hp)(k p q:Nat)(w:Bool)(ps:List (List Nat))(n:Int)(ws:List AV):Prop where
 hc:Hk H k (.n 24 [(50, .bool w),(42, .int 53),(51, .int 10),(27, .none),(47, .none),(52, .ref p),(53, .int n),(54, .ref q)])
 hp:Hk H p (.list (ps.map .str))
 hq:Hk H q (.list ws)
 kp:k≠p
 kq:k≠q
 pq:p≠q
def len_str{s:List Nat}{H:Hp}(h:s.length<=1000000):BR .len [.str s] H=some (.int s.length,H):=by show eU (cF s.length) _=_;erw [aM h];rfl
end
section
mutual
variable{d:Nat}{H aq aO H':Hp}{k p q:Nat}{w:Bool}{ps:List (List Nat)}{n:Int}{ws:List AV}
def Pr.keep{ok:Nat->Prop}(P:Pr H k p q w ps n ws)(K:Keep ok H H')(o1:ok k)(o2:ok p)(o3:ok q):Pr H' k p q w ps n ws:=⟨K.at_ _ _ o1 P.hc,K.at_ _ _ o2 P.hp,K.at_ _ _ o3 P.hq,P.kp,P.kq,P.pq⟩
def Pr.push(P:Pr H k p q w ps n ws)(x:AV):Pr (H.set q (.list (ws++ [x]))) k p q w ps n (ws++ [x]):=⟨cW P.kq.symm P.hc,cW P.pq.symm P.hp,cO (bw P.hq),P.kp,P.kq,P.pq⟩
def Pi(Pk:Pr H k p q w ps n ws){s:List Nat}(hs:s.length<=1000000)(hp:ps.length<=1000000):∃H',aP (d+1) H 115 [.ref k, .str s] (.none,H')/\Pr H' k p q w (ps++ [s]) (n+s.length) ws/\Keep (λj=>j≠k/\j≠p) H H':=by
 have h1:(H.set p (.list (ps.map .str++ [.str s])))[k]? =_:=cW Pk.kp.symm Pk.hc;refine eF ((H.set p (.list (ps.map .str++ [.str s]))).set k (.n 24 [(50, .bool w),(42, .int 53),(51, .int 10),(27, .none),(47, .none),(52, .ref p),(53, .int (n+s.length)),(54, .ref q)])) ?_ (⟨cO (bw h1),?_,cW Pk.kq (cW Pk.pq Pk.hq),Pk.kp,Pk.kq,Pk.pq⟩) ((Keep.set λo=>o.2 rfl).trans (Keep.set λo=>o.1 rfl))
 ·refine fB (F:=ON) rfl rfl rfl (uv (ft (cB rfl Pk.hc rfl rfl) Pk.hp (ah rfl) Pk.hp (aM (by erw [aK];exact hp))) (lP (bS (cB rfl h1 rfl rfl) (eH (bV rfl ao) (len_str hs)) rfl) (jC (ah rfl) h1 rfl rfl) (ie (pj (gE rfl (dw (c9 (ah rfl) (cO (bw h1)) rfl rfl) az rfl))) ba)))
 ·show(_:Option Cell)=_;erw [cW Pk.kp (cO (bw Pk.hp)),bp];rfl
end
end
mutual
def aZ{H:Hp}{i:Nat}{c:Cell}(h1:Hk H i c)(h2:Hk H j c')(h:c≠c'):i≠j:=λe=>h (ae (h1.symm.trans (e ▸h2)))
end
section
mutual
variable{i:Int}{c:Cell}
variable{d:Nat}{ls bA:Ls}{H aq aO H':Hp}{k p q j:Nat}{w:Bool}{ps:List (List Nat)}{n:Int}{ws:List AV}{x y v:AV}
noncomputable abbrev n6(k p q:Nat):Nat->Prop:=λi=>i≠k/\i≠p/\i≠q
def oI(P:Pr H k p q w ps n ws)(hr:ws.length<=1000000)(hl:ls[0]? =some (some (.ref k))){a:E}(ha:Re d ls H a (x,H)):Rs d ls H (.expr (.meth (.aT (.v 0) 54) 0 [.U [.lit (.int i),a]])) (.next,ls,H.set q (.list (ws++ [.U [.int i,x]]))):=
 sO (ft (c9 (ah hl) P.hc rfl rfl) P.hq (gQ (gR (ak ha ao)) (aM (ab rfl))) P.hq (aM hr))
def uE(P:Pr H k p q w ps n ws){s:List Nat}(hs:s.length<=1000000)(hp:ps.length<=1000000)(hl:ls[0]? =some (some (.ref k))){a:E}(ha:Re (d+1) ls H a (.str s,H)):∃H',Rs (d+1) ls H (.expr (.meth (.v 0) 65 [a])) (.next,ls,H')/\Pr H' k p q w (ps++ [s]) (n+s.length) ws/\Keep (n6 k p q) H H':=by
 refine dq (Pi (d:=d) P hs hp) λH' h1 h2 h3=>?_;exact eF H' (sO (gC (ah hl) P.hc rfl rfl rfl (ak ha ao) h1)) h2 (h3.weak λi o=>⟨o.1,o.2.1⟩)
def Pr.ok(P:Pr H k p q w ps n ws)(h:Hk H j c)(h1:∀fs,c≠ .n 24 fs)(h2:∀vs,c≠ .list vs):n6 k p q j:=(eC (aZ h P.hc (h1 _)) (aZ h P.hp (h2 _)) (aZ h P.hq (h2 _)))
def nj:Keep (n6 k p q) H (H.set q c):=Keep.set λo=>o.2.2 rfl
def zH(P:Pr H k p q w ps n ws)(hr:ws.length+1<=1000000)(hl:ls[0]? =some (some (.ref k))){a b:E}{i':Int}(ha:Re d ls H a (x,H))(hb:∀H',Keep (n6 k p q) H H'->Re d ls H' b (y,H')):
  ∃H',gH d ls H [.expr (.meth (.aT (.v 0) 54) 0 [.U [.lit (.int i),a]]), .expr (.meth (.aT (.v 0) 54) 0 [.U [.lit (.int i'),b]])] (.next,ls,H')/\Pr H' k p q w ps n (ws++ [.U [.int i,x], .U [.int i',y]])/\Keep (n6 k p q) H H':=by
 have P2:=P.push (.U [.int i,x]);have P3:=P2.push (.U [.int i',y]);refine eF _ (aB (oI P (dg hr) hl ha) (aB (oI P2 (by erw [af];exact hr) hl (hb _ nj)) ba)) ?_ (nj.trans nj);rw[aA]at P3
 erw [aA]
 exact P3
def RB(P:Pr H k p q w ps n ws)(hj:Hk H j (.n 3 [(16,x),(17,y)]))(hr:ws.length+1<=1000000)(hp:ps.length<=1000000):∃H',aP (d+3) H 117 [.ref k, .ref j] (.none,H')/\Pr H' k p q w (ps++ [[40]]) (n+1) (ws++ [.U [.int 2,y], .U [.int 1,x]])/\Keep (n6 k p q) H H':=by
 have oj:=P.ok hj (λzz e=>nomatch e) (λzz e=>nomatch e);refine dq (uE (d:=d+1) (ls:= [some (.ref k),some (.ref j),some .none,none,none]) (s:= [40]) P (ab rfl) hp rfl (a:= .lit (.str [40])) az) λaq h1 P1 K1=>?_;have hj1:=K1.at_ _ _ oj hj;refine dq (zH (d:=d+2) (ls:= [some (.ref k),some (.ref j),some .none,none,none]) (i:=2) (i':=1) (a:= .aT (.v 1) 17) (b:= .aT (.v 1) 16) (x:=y) (y:=x) P1 hr rfl (cB rfl hj1 rfl rfl) (λH' K=>cB rfl (K.at_ _ _ oj hj1) rfl rfl)) λaO h2 P2 K2=>?_;exact eF aO (fB (F:=OM) rfl rfl rfl (cK (eW (gN (cB rfl P.hc rfl rfl) az rfl) az) rfl (ie (cS rfl rfl) (aB h1 h2)))) P2 (K1.trans K2)
def Pc(P:Pr H k p q w ps n ws)(hp:ps.length<=1000000):∃H',aP (d+3) H 118 [.ref k, .obj 0] (.none,H')/\Pr H' k p q w (ps++ [[41]]) (n+1) ws/\Keep (n6 k p q) H H':=by
 refine dq (uE (d:=d+1) (ls:= [some (.ref k),some (.obj 0),none,none]) (s:= [41]) P (ab rfl) hp rfl (a:= .lit (.str [41])) az) λaq h1 P1 K1=>?_;exact eF aq (fB (F:=Ik) rfl rfl rfl (aB (ff (cS rfl rfl) (aB h1 ba)) ba)) P1 K1
def Pa(P:Pr H k p q w ps n ws)(hj:Hk H j (.n 3 [(16,x),(17,y)]))(hr:ws.length+1<=1000000)(hp:ps.length<=1000000):∃H',aP (d+3) H 118 [.ref k, .ref j] (.none,H')/\Pr H' k p q w (ps++ [[32]]) (n+1) (ws++ [.U [.int 2,y], .U [.int 1,x]])/\Keep (n6 k p q) H H':=by
 have oj:=P.ok hj (λzz e=>nomatch e) (λzz e=>nomatch e);refine dq (uE (d:=d+1) (ls:= [some (.ref k),some (.ref j),none,none]) (s:= [32]) P (ab rfl) hp rfl (a:= .lit (.str [32])) az) λaq h1 P1 K1=>?_;have hj1:=K1.at_ _ _ oj hj;refine dq (zH (d:=d+2) (ls:= [some (.ref k),some (.ref j),none,none]) (i:=2) (i':=1) (a:= .aT (.v 1) 17) (b:= .aT (.v 1) 16) (x:=y) (y:=x) P1 hr rfl (cB rfl hj1 rfl rfl) (λH' K=>cB rfl (K.at_ _ _ oj hj1) rfl rfl)) λaO h2 P2 K2=>?_;exact eF aO (fB (F:=Ik) rfl rfl rfl (aB (cU (cS rfl rfl) (aB (ff (gE rfl (iY (ah rfl) (bY hj))) (aB h1 h2)) ba)) ba)) P2 (K1.trans K2)
def Pb(P:Pr H k p q w ps n ws)(h0:Dk v (.obj 0)=some false)(h3:kh Mine.Internal.P H (.cls 3) v=some false)(hr:ws.length+1<=1000000)(hp:ps.length<=1000000):∃H',aP (d+3) H 118 [.ref k,v] (.none,H')/\Pr H' k p q w (ps++ [[32,46,32]]) (n+3) (ws++ [.U [.int 0, .str [41]], .U [.int 1,v]])/\Keep (n6 k p q) H H':=by
 refine dq (uE (d:=d+1) (ls:= [some (.ref k),some v,none,none]) (s:= [32,46,32]) P (ab rfl) hp rfl (a:= .lit (.str [32,46,32])) az) λaq h1 P1 K1=>?_;refine dq (zH (d:=d+2) (ls:= [some (.ref k),some v,none,none]) (i:=0) (i':=1) (a:= .lit (.str [41])) (b:= .v 1) (x:= .str [41]) (y:=v) P1 hr rfl az (λH' K=>ah rfl)) λaO h2 P2 K2=>?_;exact eF aO (fB (F:=Ik) rfl rfl rfl (aB (cU (cS rfl h0) (aB (cU (gE rfl (iY (ah rfl) h3)) (aB h1 h2)) ba)) ba)) P2 (K1.trans K2)
end
end
mutual
def wj{i:Int}(h:i.natAbs<2 ^ 1024):fQ i=true:=by unfold fQ;exact cL.mpr h
def tH:fQ (-1)=true:=wj (al (Nat.lt_two_pow_self (n:=1)) (cp (ab rfl) (ab rfl)))
end
section
mutual
variable{d:Nat}{ls bA:Ls}{H aq aO H':Hp}{k p q j l:Nat}{w:Bool}{ps:List (List Nat)}{n:Int}{ws vs:List AV}{x y v:AV}
def kg(h:Hk H l (.list vs))(hr:vs.length<=1000000):BR .len [.ref l] H=some (.int vs.length,H):=by
 show(((aD H l).map je).bind λn=>eU (cF n) (some (AV.int n,H)))=_;unfold aD
 erw [h]
 show eU (cF vs.length) _=_
 erw [aM hr];rfl
def fi{i:Nat}(h:Hk H l (.list vs))(hr:vs.length<=1000000)(hv:vs[i]? =some v):rN H (.ref l) (.int i)=some v:=by
 show((aD H l).bind λvs=>rO vs i)=_;unfold aD
 erw [h]
 show(wW i vs.length).bind (λj=>vs[j]?)=some v;unfold wW
 erw [aM hr]
 show(match cf i vs.length with | true=>some i | false=>none).bind _=_
 erw [cL.mpr (aT.mp hv).1]
 exact hv
def vW:[x,y].length<=1000000:=show 2<=1000000 from ab rfl
def Lv:gA H (.rng 1 (-1) (-1))=some (.rng 1 (-1) 2):=by
 show eU (cw 1 (-1) (-1)) (some (It.rng 1 (-1) (g9 1 (-1) (-1))))=_
 erw [(show cw 1 (-1) (-1)=true from by decide),(show g9 1 (-1) (-1)=2 from by decide)]
 rfl
def A9{a:Int}:BR .range [.int a, .int (-1), .int (-1)] H=some (.rng a (-1) (-1),H):=by
 show eU (fQ (-1) && !decide ((-1:Int)=0)) _=_
 erw [tH];rfl
def Pf(P:Pr H k p q w ps n ws)(hj:Hk H j (.n 3 [(16,x),(17,y)]))(hr:ws.length+1<=1000000)(hp:ps.length<=1000000):∃H',aP (d+4) H 116 [.ref k, .ref j] (.none,H')/\Pr H' k p q w (ps++ [[40]]) (n+1) (ws++ [.U [.int 2,y], .U [.int 1,x]])/\Keep (n6 k p q) H H':=by
 refine dq (RB (d:=d) P hj hr hp) λaq h1 P1 K1=>?_;exact eF aq (fB (F:=Il) rfl rfl rfl (aB (ff (gE rfl (iY (ah rfl) (bY hj))) (uv (i4 rfl P.hc rfl rfl rfl (bV rfl ao) h1) ba)) ba)) P1 K1
def Ph(P:Pr H k p q w ps n ws){s:List Nat}(h3:kh Mine.Internal.P H (.cls 3) v=some false)(h6:kh Mine.Internal.P H (.cls 6) v=some false)(ha:aP (d+1) H 119 [.ref k,v] (.str s,aq))(K:Keep all H aq)(hs:s.length<=1000000)(hp:ps.length<=1000000):∃H',aP (d+2) H 116 [.ref k,v] (.none,H')/\Pr H' k p q w (ps++ [s]) (n+s.length) ws/\Keep (n6 k p q) H H':=by
 have P1:=P.keep K trivial trivial trivial;refine dq (Pi (d:=d) P1 hs hp) λaO h1 P2 K2=>?_;exact eF aO (fB (F:=Il) rfl rfl rfl (aB (cU (gE rfl (iY (ah rfl) h3)) (aB (cU (gE rfl (iY (ah rfl) h6)) (uv (i4 rfl P.hc rfl rfl rfl (ak (i4 rfl P.hc rfl rfl rfl (ak (ah rfl) ao) ha) ao) h1) ba)) ba)) ba)) P2 ((K.weak λzz zy=>trivial).trans (K2.weak λi o=>⟨o.1,o.2.1⟩))
def Pe(P:Pr H k p q w ps n ws)(hj:Hk H j (.n 6 [(20, .ref l)]))(hl:Hk H l (.list [x,y]))(hlp:l≠p)(hlq:l≠q)(hr:ws.length+4<=1000000)(hp:ps.length<=1000000):
  ∃H',aP (d+3) H 116 [.ref k, .ref j] (.none,H')/\Pr H' k p q w (ps++ [[35,40]]) (n+2) (ws++ [.U [.int 0, .str [41]], .U [.int 1,y], .U [.int 0, .str [32]], .U [.int 1,x]])/\Keep (n6 k p q) H H':=by
 have oj:=P.ok hj (λzz e=>nomatch e) (λzz e=>nomatch e);have ol:n6 k p q l:=(eC (aZ hl P.hc (λe=>nomatch e)) hlp hlq);refine dq (uE (d:=d+1) (ls:= [some (.ref k),some (.ref j),none,none,none]) (s:= [35,40]) P (ab rfl) hp rfl (a:= .lit (.str [35,40])) az) λaq h1 P1 K1=>?_;have L0:∀m,ws.length+m<=1000000->∀(us:List AV),us.length=m->(ws++us).length<=1000000:=λm h us e=>by erw [af,e];exact h
 have P2:=P1.push (.U [.int 0, .str [41]]);have P3:=P2.push (.U [.int 1,y]);have P4:=P3.push (.U [.int 0, .str [32]]);have P5:=P4.push (.U [.int 1,x]);have K2:Keep (n6 k p q) aq _:=nj (c:= .list (ws++ [.U [.int 0, .str [41]]]));have hj2:=K2.at_ _ _ oj (K1.at_ _ _ oj hj);have hl2:=K2.at_ _ _ ol (K1.at_ _ _ ol hl);have K3:=(K2.trans (nj (k:=k) (p:=p) (c:= .list (ws++ [.U [.int 0, .str [41]]]++ [.U [.int 1,y]]))));have K4:=(K3.trans (nj (k:=k) (p:=p) (c:= .list (ws++ [.U [.int 0, .str [41]]]++ [.U [.int 1,y]]++ [.U [.int 0, .str [32]]]))));have hj4:=K4.at_ _ _ oj (K1.at_ _ _ oj hj);have hl4:=K4.at_ _ _ ol (K1.at_ _ _ ol hl);have r1:(ws++ [AV.U [.int 0, .str [41]]]).length<=1000000:=by erw [af];exact aj (mN (ab rfl) _) hr
 have r2:(ws++ [AV.U [.int 0, .str [41]]]++ [AV.U [.int 1,y]]).length<=1000000:=by simp only[af,aI,dW];exact(cz (aJ (aJ ai (eS (aG 0))) (eS (aG 0))) cX [(aJ ai (aG 4),cX)] aR hr)
 have r3:(ws++ [AV.U [.int 0, .str [41]]]++ [AV.U [.int 1,y]]++ [AV.U [.int 0, .str [32]]]).length<=1000000:=by simp only[af,aI,dW];exact(cz (aJ (aJ (aJ ai (eS (aG 0))) (eS (aG 0))) (eS (aG 0))) cX [(aJ ai (aG 4),cX)] aR hr)
 refine eF _ (fB (F:=Il) rfl rfl rfl (aB (cU (gE rfl (iY (ah rfl) (bY hj))) (aB (ff (gE rfl (iY (ah rfl) (bY hj))) (aB h1 (aB (oI P1 (aj (bu _ _) hr) rfl az) (aB (mL (eH (ak (bS (eH (ak (cB rfl hj2 rfl rfl) ao) (kg hl2 vW)) az rfl) (ak (pZ az) (ak (pZ az) ao))) A9) Lv
  (fq rfl rfl (aB (oI P2 r1 rfl (dC (cB rfl hj2 rfl rfl) (ah rfl) (fi (i:=1) hl2 vW rfl))) (aB (ff (cS rfl rfl) (aB (oI P3 r2 rfl az) ba)) ba))
  (fq rfl rfl (aB (oI P4 r3 rfl (dC (cB rfl hj4 rfl rfl) (ah rfl) (fi (i:=0) hl4 vW rfl))) (ie (cS rfl rfl) ba)) (iH rfl)))) ba)))) ba)) ba)) ?_ (K1.trans (K4.trans nj));have e:ws++ [AV.U [.int 0, .str [41]]]++ [.U [.int 1,y]]++ [.U [.int 0, .str [32]]]++ [.U [.int 1,x]]=ws++ [.U [.int 0, .str [41]], .U [.int 1,y], .U [.int 0, .str [32]], .U [.int 1,x]]:=by simp
 rw[e]at P5 |-
 exact P5
end
end
mutual
abbrev D.atom:D->Bool
 | .vec _ _=>false
 | .pair _ _=>false
 | _=>true
abbrev D.end_:D->Bool
 | .empty=>false
 | .pair _ _=>false
 | _=>true
abbrev sz:D->Nat
 | .vec a b=>4+sz a+sz b
 | .pair a b=>3+sz a+sz b
 | _=>1
def iG{ok:Nat->Prop}{H:Hp}{v:AV}(x:D)(h:x.atom=true)(r:gI ok H v x):kh Mine.Internal.P H (.cls 3) v=some false/\kh Mine.Internal.P H (.cls 6) v=some false:=by
 cases x using D.casesOn with
 | bool zz=>erw [(r:v=_)];exact⟨rfl,rfl⟩
 | int zz=>erw [(r:v=_)];exact⟨rfl,rfl⟩
 | empty=>erw [(r:v=_)];exact⟨rfl,rfl⟩
 | ratio zz zy=>refine dq r λzz e zy h=>?_;erw [e];exact⟨bY h,bY h⟩
 | real zz zy=>refine dq r λzz e zy h=>?_;erw [e];exact⟨bY h,bY h⟩
 | sym zz=>refine dX r λzz zy e zx h=>?_;erw [e];exact⟨bY h,bY h⟩
 | char zz=>refine dq r λzz e zy h=>?_;erw [e];exact⟨bY h,bY h⟩
 | text zz=>refine fy r λzz zy e zx h zw=>?_;erw [e];exact⟨bY h,bY h⟩
 | _=>exact(nE h).elim
def HI{ok:Nat->Prop}{H:Hp}{v:AV}(x:D)(h:x.end_=true)(r:gI ok H v x):Dk v (.obj 0)=some false/\kh Mine.Internal.P H (.cls 3) v=some false/\∀w,tl w x= [32,46,32]++tx w x++ [41]:=by
 cases x using D.casesOn with
 | bool zz=>erw [(r:v=_)];exact eC rfl rfl (λzz=>rfl)
 | int zz=>erw [(r:v=_)];exact eC rfl rfl (λzz=>rfl)
 | ratio zz zy=>refine dq r λzz e zy h=>?_;erw [e];exact eC rfl (bY h) (λzz=>rfl)
 | real zz zy=>refine dq r λzz e zy h=>?_;erw [e];exact eC rfl (bY h) (λzz=>rfl)
 | sym zz=>refine dX r λzz zy e zx h=>?_;erw [e];exact eC rfl (bY h) (λzz=>rfl)
 | char zz=>refine dq r λzz e zy h=>?_;erw [e];exact eC rfl (bY h) (λzz=>rfl)
 | text zz=>refine fy r λzz zy e zx h zw=>?_;erw [e];exact eC rfl (bY h) (λzz=>rfl)
 | vec zz zy=>refine w2 r λzz zy zx zw e zv h zu=>?_;erw [e];exact eC rfl (bY h) (λzz=>rfl)
 | _=>exact(nE h).elim
abbrev names:List (List Nat):= [[97],[98,50],[108,105,115,116,45,62,118,101,99,116,111,114],[43],[45],[46,46,46],[33,120],[97,46,98],[60,61,63],[113,64],[113,117,111,116,101],[101,53],[120,45,49,43],[117,110,113,117,111,116,101]]
abbrev mi:List Nat:= [34,92,10,32,40,41,59,39,35,97,65,9,955,124]
abbrev mY:List (Int×Int):= [(1,-1),(3,-1),(-5,-2),(0,0),(25,2),(1,-4)]
abbrev D.good:D->Prop
 | .int i=> -1000<=i/\i<1000
 | .ratio p q=>2<=q/\q<10/\∃k:Int,-10<=k/\k<10/\p=q*k+1
 | .real m e=>(m,e)∈mY
 | .sym s=>s∈names
 | .char c=>(33<=c/\c<95)\/c∈mi
 | .text cs=>cs.length<=4/\∀c∈cs,c∈mi
 | .vec a b=>a.good/\b.good
 | .pair a b=>a.good/\b.good
 | _=>True
class inductive Stk(w:Bool)(ok:Nat->Prop)(H:Hp):List AV->List Nat->Nat->Prop
 | nil:Stk w ok H [] [] 0
 | str {ws t n s}:Stk w ok H ws t n->Stk w ok H (ws++ [.U [.int 0, .str s]]) (s++t) (n+1)
 | dat {ws t n v x}:Stk w ok H ws t n->gI ok H v x->x.good->Stk w ok H (ws++ [.U [.int 1,v]]) (tx w x++t) (n+sz x)
 | tai {ws t n v x}:Stk w ok H ws t n->gI ok H v x->x.good->Stk w ok H (ws++ [.U [.int 2,v]]) (tl w x++t) (n+sz x+2)
def Stk.keep{w:Bool}{ok:Nat->Prop}{H H':Hp}(K:Keep ok H H'){ws:List AV}{t:List Nat}{n:Nat}(h:Stk w ok H ws t n):Stk w ok H' ws t n:=by
 induction h with
 | nil=>exact .nil
 | str zz ih=>exact .str ih
 | dat zz r g ih=>exact .dat ih (r.keep K) g
 | tai zz r g ih=>exact .tai ih (r.keep K) g
def lQ:∀x:D,1<=sz x
 | .vec _ _=>by simp only[sz];exact(bE (aG 1) (aJ (aJ (aG 4) ai) ay) [] aR)
 | .pair _ _=>by simp only[sz];exact(bE (aG 1) (aJ (aJ (aG 3) ai) ay) [] aR)
 | .bool _=>aw _
 | .int _=>aw _
 | .empty=>aw _
 | .ratio _ _=>aw _
 | .real _ _=>aw _
 | .sym _=>aw _
 | .char _=>aw _
 | .text _=>aw _
def Stk.len{w:Bool}{ok:Nat->Prop}{H:Hp}{ws:List AV}{t:List Nat}{n:Nat}(h:Stk w ok H ws t n):ws.length<=n:=by
 induction h with
 | nil=>exact aw _
 | str zz ih=>erw [af];exact t6 ih 1
 | dat zz zy zx ih=>erw [af];exact Nat.add_le_add ih (lQ _)
 | tai zz zy zx ih=>erw [af];exact aj (Nat.add_le_add ih (lQ _)) (bu _ 2)
abbrev lj:Prop:= ∀{d:Nat} {H:Hp} {k p q:Nat} {w:Bool} {ps:List (List Nat)} {n:Int} {ws:List AV} {v:AV} (x:D),Pr H k p q w ps n ws->gI (n6 k p q) H v x->x.good->x.atom=true->∃H',aP (d+20) H 119 [.ref k,v] (.str (tx w x),H')/\Keep all H H'
end
section
mutual
variable{t:List Nat}{N:Nat}{i:Int}{ls:Ls}
variable{d:Nat}{H aq aO H':Hp}{k p q j:Nat}{w:Bool}{ps:List (List Nat)}{n:Int}{ws:List AV}{x y v:AV}
def Gd{x:AV}(P:Pr H k p q w ps n (ws++ [x])):Pr (H.set q (.list ws)) k p q w ps n ws:=⟨cW P.kq.symm P.hc,cW P.pq.symm P.hp,cO (bw P.hq),P.kp,P.kq,P.pq⟩
def Nm(A:lj)(P:Pr H k p q w ps n ws)(S:Stk w (n6 k p q) H ws t N)(x:D)(r:gI (n6 k p q) H v x)(g:x.good)(h1:ps.length+N+sz x<=1000000)(h2:ps.flatten.length+(tx w x++t).length<=1000000):
  ∃H' ps' ws' t' N' n',aP (d+22) H 116 [.ref k,v] (.none,H')/\Pr H' k p q w ps' n' ws'/\Keep (n6 k p q) H H'/\Stk w (n6 k p q) H' ws' t' N'/\ps'.flatten++t'=ps.flatten++(tx w x++t)/\N'<N+sz x/\ps'.length+N'<=1000000:=by
 have hp:ps.length<=1000000:=aj (bu _ _) (aj (bu _ _) h1);have hw:=S.len;cases hx:x.atom with
 | true=>
  refine aL (A (d:=d+1) x P r g hx) λaq e1 K1=>?_;obtain⟨i3,i6⟩:=iG x hx r;rw[af]at h2;refine dq (Ph (d:=d+20) P i3 i6 e1 K1 (aj (aj (bu _ _) (eE _ _)) h2) hp) λaO e2 P2 K2=>?_;exact Ab aO _ _ t N _ e2 P2 K2 (S.keep K2) (by simp) (ql (lQ x)) (by have:=lQ x;simp only[af,aI,dW];exact(gj (aJ (aJ ai (eS (aG 0))) ay) cX [(aJ (aJ ai ay) bF,cX),(aG 1,bF)] aR h1 this))
 | false=>
  cases x using D.casesOn with
  | vec a b=>
   refine Gk r λj l x y e oj hj ol hl ra rb=>?_;subst e;have hs:sz (.vec a b)=4+sz a+sz b:=rfl;have pa:=lQ a;have pb:=lQ b;refine dq (Pe (d:=d+19) P hj hl ol.2.1 ol.2.2 (by exact(Ox (aJ ai (aG 4)) cX [(ai,ay),(aJ (aJ bF ay) cP,cX),((aJ (aJ (aG 4) nU) N0),cP)] aR hw h1 (lq hs))) hp) λaO e2 P2 K2=>?_;refine Ab aO _ _ (tx w a++([32]++(tx w b++([41]++t)))) (N+1+sz b+1+sz a) _ e2 P2 K2 ?_ ?_ (by exact(gU (eS (aJ (eS (aJ bf ay)) bF)) (aJ ai cP) [((aJ (aJ (aG 4) bF) ay),cP)] aR (lq hs))) (by simp only[af,aI,dW];exact(Ai (aJ (aJ ai (eS (aG 0))) (aJ (eS (aJ cN bF)) cP)) cX [((aJ (aJ (aG 4) cP) bF),nU),(aJ (aJ ai ay) nU,cX)] aR (lq hs) h1))
   ·have S':=S.keep K2;have:=Stk.dat (Stk.str (Stk.dat (Stk.str S' (s:= [41])) (rb.keep K2) g.2) (s:= [32])) (ra.keep K2) g.1;simpa using this
   ·show _=ps.flatten++([35,40]++tx w a++ [32]++tx w b++ [41]++t);simp
  | pair a b=>
   refine jT r λj x y e oj hj ra rb=>?_;subst e;have hs:sz (.pair a b)=3+sz a+sz b:=rfl;have pa:=lQ a;have pb:=lQ b;refine dq (Pf (d:=d+18) P hj (by exact(Ox bf cX [(ai,ay),(aJ (aJ bF ay) cP,cX),((aJ (aJ (aG 3) nU) N0),cP)] aR hw h1 (lq hs))) hp) λaO e2 P2 K2=>?_;refine Ab aO _ _ (tx w a++(tl w b++t)) (N+sz b+2+sz a) _ e2 P2 K2 ?_ ?_ (by exact(gU (eS (aJ (aJ (aJ ai ay) (aG 2)) bF)) (aJ ai cP) [((aJ (aJ (aG 3) bF) ay),cP)] aR (lq hs))) (by simp only[af,aI,dW];exact(Ai (aJ (aJ ai (eS (aG 0))) (aJ (aJ (aJ ay bF) (aG 2)) cP)) cX [((aJ (aJ (aG 3) cP) bF),nU),(aJ (aJ ai ay) nU,cX)] aR (lq hs) h1))
   ·have:=Stk.dat (Stk.tai (S.keep K2) (rb.keep K2) g.2) (ra.keep K2) g.1;simpa using this
   ·show _=ps.flatten++([40]++tx w a++tl w b++t);simp
  | _=>exact nomatch hx
def turn2(P:Pr H k p q w ps n ws)(S:Stk w (n6 k p q) H ws t N)(x:D)(r:gI (n6 k p q) H v x)(g:x.good)(h1:ps.length+N+sz x+2<=1000000):
  ∃H' ps' ws' t' N' n',aP (d+3) H 118 [.ref k,v] (.none,H')/\Pr H' k p q w ps' n' ws'/\Keep (n6 k p q) H H'/\Stk w (n6 k p q) H' ws' t' N'/\ps'.flatten++t'=ps.flatten++(tl w x++t)/\N'<N+sz x+2/\ps'.length+N'<=1000000:=by
 have hp:ps.length<=1000000:=aj (bu _ _) (aj (bu _ _) (aj (bu _ _) h1));have hw:=S.len;have px:=lQ x;cases hx:x.end_ with
 | true=>
  refine kE (HI x hx r) λh0 h3 e=>?_;refine dq (Pb (d:=d) P h0 h3 (by exact(gU bf cX [(ai,ay),((aJ (aJ (aJ bF ay) cP) (aG 2)),cX)] aR hw h1)) hp) λaO e2 P2 K2=>?_;refine Ab aO _ _ (tx w x++([41]++t)) (N+1+sz x) _ e2 P2 K2 ?_ ?_ (by exact(bE (eS (aJ bf ay)) (aJ (aJ ai ay) (aG 2)) [] aR)) (by simp only[af,aI,dW];exact(gj (aJ (aJ ai (eS (aG 0))) (aJ cN bF)) cX [((aJ (aJ (aJ ai ay) bF) (aG 2)),cX)] aR h1))
  ·have:=Stk.dat (Stk.str (S.keep K2) (s:= [41])) (r.keep K2) g;simpa using this
  ·erw [e];simp
 | false=>
  cases x using D.casesOn with
  | empty=>
   cases (r:v=_)
   refine dq (Pc (d:=d) P hp) λaO e2 P2 K2=>?_;exact Ab aO _ _ t N _ e2 P2 K2 (S.keep K2) (by show _=ps.flatten++([41]++t);simp) (by exact bu ..) (by simp only[af,aI,dW];lia)
  | pair a b=>
   refine jT r λj x y e oj hj ra rb=>?_;subst e;have hs:sz (.pair a b)=3+sz a+sz b:=rfl;refine dq (Pa (d:=d) P hj (by exact(gU bf cX [(ai,ay),((aJ (aJ (aJ bF ay) cP) (aG 2)),cX)] aR hw h1)) hp) λaO e2 P2 K2=>?_;refine Ab aO _ _ (tx w a++(tl w b++t)) (N+sz b+2+sz a) _ e2 P2 K2 ?_ ?_ (by exact(gU (eS (aJ (aJ (aJ ai ay) (aG 2)) bF)) (aJ (aJ ai cP) (aG 2)) [((aJ (aJ (aG 3) bF) ay),cP)] aR (lq hs))) (by simp only[af,aI,dW];exact(Ai (aJ (aJ ai (eS (aG 0))) (aJ (aJ (aJ ay bF) (aG 2)) cP)) cX [((aJ (aJ (aG 3) cP) bF),nU),((aJ (aJ (aJ ai ay) nU) (aG 2)),cX)] aR (lq hs) h1))
   ·have:=Stk.dat (Stk.tai (S.keep K2) (rb.keep K2) g.2) (ra.keep K2) g.1;simpa using this
   ·show _=ps.flatten++([32]++tx w a++tl w b++t);simp
  | _=>exact nomatch hx
noncomputable abbrev Nn:S:=(.while (.j .ne (.aT (.v 0) 54) (.list [])) [(.aS (.U [(.v 2),(.v 3)]) (.meth (.aT (.v 0) 54) 1 [])),(.ite (.j .eq (.v 2) (.lit (.int 0))) [(.expr (.meth (.v 0) 65 [(.v 3)]))] [(.ite (.j .eq (.v 2) (.lit (.int 1))) [(.expr (.meth (.v 0) 29 [(.v 3)]))] [(.expr (.meth (.v 0) 45 [(.v 3)]))])])])
def y9{y:AV}(P:Pr H k p q w ps n (ws++ [.U [.int i,y]]))(h0:ls[0]? =some (some (.ref k))):Rt d ls H (.j .ne (.aT (.v 0) 54) (.list [])) (true,H++ [.list []]):=
 gN (c9 (ah h0) P.hc rfl rfl) (fK ao (aM (aX _))) (by
  have:Gi (H++ [.list []]) (.ref q) (.ref H.length)=some false:=by
   refine bo (a:=ws++ [.U [.int i,y]]) ?_ (bo (a:= []) ?_ ?_)
   ·unfold aD;erw [bC P.hq];rfl
   ·unfold aD;erw [aU];rfl
   ·erw [(show aW (ws++ [AV.U [.int i,y]]).length ([]:List AV).length=false from by erw [af];rfl)];rfl
  exact mo this)
def Ko(P:Pr H k p q w ps n [])(h0:ls[0]? =some (some (.ref k))):Rt d ls H (.j .ne (.aT (.v 0) 54) (.list [])) (false,H++ [.list []]):=
 gN (c9 (ah h0) P.hc rfl rfl) (fK ao (aM (aX _))) (by
  have:Gi (H++ [.list []]) (.ref q) (.ref H.length)=some true:=by
   refine bo (a:= []) ?_ (bo (a:= []) ?_ rfl)
   ·unfold aD;erw [bC P.hq];rfl
   ·unfold aD;erw [aU];rfl
  exact mo this)
def za{y:AV}{v0 x2 x3:Option AV}(P:Pr H k p q w ps n (ws++ [.U [.int i,y]]))(hr:ws.length+1<=1000000):Rs d [some (.ref k),v0,x2,x3,none,none] H (.aS (.U [(.v 2),(.v 3)]) (.meth (.aT (.v 0) 54) 1 [])) (.next,[some (.ref k),v0,some (.int i),some y,none,none],H.set q (.list ws)):=
 iT (JN (cB rfl P.hc rfl rfl) P.hq (aM (by erw [af];exact hr))) (mm (di (eh rfl) (di (eh rfl) jB)))
def B5(A:lj)(v0:Option AV):∀(M:Nat) {H:Hp} {ps:List (List Nat)} {n:Int} {ws:List AV} {t:List Nat} {N:Nat} {x2 x3:Option AV},N<M->Pr H k p q w ps n ws->Stk w (n6 k p q) H ws t N->ps.length+N<=1000000->(ps.flatten++t).length<=1000000->
  ∃H' ps' n' x2' x3',Rs (d+22) [some (.ref k),v0,x2,x3,none,none] H Nn (.next,[some (.ref k),v0,x2',x3',none,none],H')/\Pr H' k p q w ps' n' []/\Keep (n6 k p q) H H'/\ps'.flatten=ps.flatten++t/\ps'.length<=1000000:=by
 intro M
 induction M with
 | zero=>exact λh=>absurd h (Nat.not_lt_zero _)
 | succ M ih=>
  intro H ps n ws t N x2 x3 hM P S h1 h2;have hl:=S.len
  cases S using Stk.casesOn with
  | nil=>exact EW _ ps n _ _ (eR (Ko P rfl)) (P.keep (ok:=all) Keep.app trivial trivial trivial) (Keep.app.weak (λzz zy=>trivial)) ((bq _).symm) h1
  | @str ws t N s S=>
   have P1:=P.keep (ok:=all) (Keep.app (L:= [.list []])) trivial trivial trivial;have P2:=Gd P1;have K2:Keep (n6 k p q) H _:=(Keep.app.weak (ok:=all) (λzz zy=>trivial)).trans (nj (H:=H++ [.list []]) (c:= .list ws));have hl':=S.len;rw[af,af]at h2;refine dq (uE (d:=d+21) (ls:= [some (.ref k),v0,some (.int 0),some (.str s),none,none]) (s:=s) P2 (by exact(gj ai cX [(aJ ay (aJ ai bF),cX)] aR h2)) (by exact(bE ai cX [(aJ ai cN,cX)] aR h1)) rfl (a:= .v 3) (ah rfl)) λdK e3 P3 K3=>?_;have K:=K2.trans K3;refine Do (ih (x2:=some (.int 0)) (x3:=some (.str s)) (Nat.lt_of_succ_lt_succ hM) P3 (S.keep K) (by erw [af];exact(gq _ _ _ ▸h1)) (by simp only[List.flatten_append,k9,List.flatten_nil,bq,af];exact(gj (aJ (aJ ai ay) bF) cX [(aJ ai (aJ ay bF),cX)] aR h2))) λmJ ps' n' x2' x3' e4 P4 K4 f4 l4=>?_;exact EW mJ ps' n' x2' x3' (eQ (y9 P rfl) (aB (za P1 (by exact(gj bf cX [(ai,ay),(aJ bF cN,cX)] aR hl' h1))) (aB (ff (cS rfl rfl) (aB e3 ba)) ba)) e4) P4 (K.trans K4) (by erw [f4];simp) l4
  | @dat ws t N v x S r g=>
   have P1:=P.keep (ok:=all) (Keep.app (L:= [.list []])) trivial trivial trivial;have P2:=Gd P1;have K2:Keep (n6 k p q) H _:=(Keep.app.weak (ok:=all) (λzz zy=>trivial)).trans (nj (H:=H++ [.list []]) (c:= .list ws));have hl':=S.len;refine Dn (Nm (d:=d) A P2 (S.keep K2) x (r.keep K2) g (by exact(gj (aJ (aJ ai ay) bF) cX [(aJ ai (aJ ay bF),cX)] aR h1)) (by erw [<- af];exact h2)) λdK ps1 ws1 t1 N1 n1 e3 P3 K3 S3 f3 d3 l3=>?_;have K:=K2.trans K3;refine Do (ih (x2:=some (.int 1)) (x3:=some v) (by exact(gU bf ay [(bf,aJ bF cP),(eS (aJ bF cP),cN)] aR d3 hM)) P3 S3 l3 (by erw [f3];exact h2)) λmJ ps' n' x2' x3' e4 P4 K4 f4 l4=>?_;exact EW mJ ps' n' x2' x3' (eQ (y9 P rfl) (aB (za P1 (by have:=lQ x;exact(gU bf cX [(ai,ay),(aJ bF (aJ ay cP),cX),(aG 1,cP)] aR hl' h1 this))) (aB (cU (cS rfl rfl) (aB (ff (cS rfl rfl) (uv (i4 rfl P2.hc rfl rfl rfl (bV rfl ao) e3) ba)) ba)) ba)) e4) P4 (K.trans K4) (by erw [f4];exact f3) l4
  | @tai ws t N v x S r g=>
   have P1:=P.keep (ok:=all) (Keep.app (L:= [.list []])) trivial trivial trivial;have P2:=Gd P1;have K2:Keep (n6 k p q) H _:=(Keep.app.weak (ok:=all) (λzz zy=>trivial)).trans (nj (H:=H++ [.list []]) (c:= .list ws));have hl':=S.len;refine Dn (turn2 (d:=d+19) P2 (S.keep K2) x (r.keep K2) g (by exact(gj (aJ (aJ (aJ ai ay) bF) (aG 2)) cX [((aJ ai (aJ (aJ ay bF) (aG 2))),cX)] aR h1))) λdK ps1 ws1 t1 N1 n1 e3 P3 K3 S3 f3 d3 l3=>?_;have K:=K2.trans K3;refine Do (ih (x2:=some (.int 2)) (x3:=some v) (by exact(gU bf ay [(bf,aJ (aJ bF cP) (aG 2)),((eS (aJ (aJ bF cP) (aG 2))),cN)] aR d3 hM)) P3 S3 l3 (by erw [f3];exact h2)) λmJ ps' n' x2' x3' e4 P4 K4 f4 l4=>?_;exact EW mJ ps' n' x2' x3' (eQ (y9 P rfl) (aB (za P1 (by exact(gU bf cX [(ai,ay),((aJ bF (aJ (aJ ay cP) (aG 2))),cX)] aR hl' h1))) (aB (cU (cS rfl rfl) (aB (cU (cS rfl rfl) (uv (i4 rfl P2.hc rfl rfl rfl (bV rfl ao) e3) ba)) ba)) ba)) e4) P4 (K.trans K4) (by erw [f4];exact f3) l4
end
end
mutual
def so:∀ps:List (List Nat),gX (ps.map .str)=some ps
 | []=>rfl
 | s::r=>by show(gX (r.map .str)).map (s::·)=_;erw [so r];rfl
def uR:∀ps:List (List Nat),oe [] ps=ps.flatten
 | []=>rfl
 | [x]=>(bq x).symm
 | x::y::r=>by show x++ []++oe [] (y::r)=_;erw [uR (y::r),bq];rfl
def yq:∀ps:List (List Nat),ps.foldr (λx n=>x.length+([]:List Nat).length+n) 0=ps.flatten.length
 | []=>rfl
 | x::r=>by erw [List.foldr_cons,yq r,k9,af];rfl
def uQ{ps:List (List Nat)}(h1:ps.length<=1000000)(h2:ps.flatten.length<=1000000):j2 [] (ps.map .str)=some (.str ps.flatten):=by
 unfold j2
 erw [so]
 show(match cF (ps.foldr _ 0) && cF (ps.map AV.str).length with | true=>some (AV.str (oe [] ps)) | false=>none)=_
 erw [yq,aM h2,aK,aM h1,uR]
 rfl
def B6{H:Hp}{ps:List (List Nat)}(h:Hk H l (.list (ps.map .str)))(h1:ps.length<=1000000)(h2:ps.flatten.length<=1000000):uc [] 6 [.ref l] H=some (.str ps.flatten,H):=by
 show(aD H l).bind (λvs=>(j2 [] vs).map (·,H))=_;unfold aD
 erw [h]
 exact mo (uQ h1 h2)
def oU{d:Nat}{ls:Ls}{H:Hp}{a:E}{ps:List (List Nat)}(ha:Re d ls H a (.ref l,aq))(h:Hk aq l (.list (ps.map .str)))(h1:ps.length<=1000000)(h2:ps.flatten.length<=1000000):Re d ls H (.meth (.lit (.str [])) 6 [a]) (.str ps.flatten,aq):=
 oR az rfl (ak ha ao) (B6 h h1 h2)
end
section
mutual
variable{c c':Cell}
variable{d:Nat}{H aq aO H':Hp}{k p q:Nat}{w:Bool}{v:AV}
def yl:Hk ((H++ [c])++ [c']) (H.length+1) c':=by erw [(show H.length+1=(H++ [c]).length from by erw [af];rfl)];exact aU
def E1{c'':Cell}:Hk (((H++ [c])++ [c'])++ [c'']) (H.length+2) c'':=by erw [(show H.length+2=((H++ [c])++ [c']).length from by erw [af,af];rfl)];exact aU
def RC(A:lj)(P:Pr H k p q w [] 0 [])(x:D)(r:gI (n6 k p q) H v x)(g:x.good)(h1:sz x<=900000)(h2:(tx w x).length<=1000000):∃H',aP (d+23) H 114 [.ref k,v] (.str (tx w x),H')/\Keep (n6 k p q) H H':=by
 have P1:=P.push (.U [.int 1,v]);have K1:Keep (n6 k p q) H _:=nj (c:= .list ([]++ [.U [.int 1,v]]));refine Do (B5 (d:=d) A (some v) _ (x2:=none) (x3:=none) (cI _) P1 (Stk.dat .nil (r.keep K1) g) (by show 0+(0+sz x)<=_;exact(cz (aJ (aG 0) (aJ (aG 0) ai)) cX [(ai,aG 900000)] aR h1)) (by show(tx w x++ []).length<=_;erw [bq];exact h2)) λaO ps n x2 x3 e2 P2 K2 f2 l2=>?_;have f3:ps.flatten=tx w x:=f2.trans (bq _);refine bH aO ?_ (K1.trans K2);have:=bx (f:=114) (F:=OO) (d:=d+22) (H:=H) (args:= [.ref k,v]) rfl rfl rfl (aB (oI (ls:= [some (.ref k),some v,none,none,none,none]) P (aX _) rfl (ah rfl)) (aB e2 (fx (oU (cB rfl P2.hc rfl rfl) P2.hp l2 (f3 ▸h2)))));rw[f3]at this;exact this
def RD:∃H',aP (d+1) (H++ [.n 24 []]) 113 [.ref H.length, .bool w, .int 53, .int 10, .none, .none] (.none,H')/\Pr H' H.length (H.length+1) (H.length+2) w [] 0 []/\Keep (λj=>j<H.length) H H':=by
 have n1:H.length≠H.length+1:=aC (cI _);have n2:H.length≠H.length+2:=aC (ql (cH 1));have n3:H.length+1≠H.length+2:=aC (cI _);have e1:∀c:Cell,(H++ [c]).length=H.length+1:=λc=>af;have e2:∀c c':Cell,((H++ [c])++ [Cell.list []]).set H.length c'=(H++ [c'])++ [.list []]:=λc c'=>by erw [(List.set_append_left _ _ (by erw [e1];exact cI _)),lC];rfl
 have e3:∀c c':Cell,(((H++ [c])++ [Cell.list []])++ [Cell.list []]).set H.length c'=((H++ [c'])++ [.list []])++ [.list []]:=λc c'=>by erw [(List.set_append_left _ _ (by erw [af,e1];exact ql (cH 1))),e2];rfl
 refine eF (((H++ [.n 24 [(50, .bool w),(42, .int 53),(51, .int 10),(27, .none),(47, .none),(52, .ref (H.length+1)),(53, .int 0),(54, .ref (H.length+2))]])++ [.list []])++ [.list []]) ?_ (⟨bC (bC aU),bC yl,E1,n1,n2,n3⟩) ((Keep.app.trans Keep.app).trans Keep.app)
 ·refine fB (F:=OP) (ls':= [some (.ref H.length),some (.bool w),some (.int 53),some (.int 10),some .none,some .none,none,none]) rfl rfl rfl (aB (dS rfl (ah rfl) rfl rfl) (aB (dS rfl (ah rfl) rfl rfl) (aB (dS rfl (ah rfl) rfl rfl) (aB (dS rfl (ah rfl) rfl rfl) (aB (dS rfl (ah rfl) rfl rfl)
   (lP (fK ao (aM (aX _))) (jC (ah rfl) (bC aU) rfl rfl) (lP az (jC (ah rfl) (e2 _ _ ▸bC aU) rfl rfl) (lP (fK ao (aM (aX _))) (jC (c:=24) (fs:= [(50, .bool w),(42, .int 53),(51, .int 10),(27, .none),(47, .none),(52, .ref (H++ [Cell.n 24 [(50, .bool w),(42, .int 53),(51, .int 10),(27, .none),(47, .none)]]).length),(53, .int 0)]) (ah rfl) ?_ rfl rfl) ?_))))))))
  ·erw [e2,e2];exact bC (bC aU)
  ·simp only[e2,e3,af];exact ba
def Bc(A:lj)(x:D)(r:gI all H v x)(g:x.good)(h1:sz x<=900000)(h2:(tx w x).length<=1000000){ls:Ls}{as:List E}{a:E}(hs:vl (d+23) ls H as ([.bool w, .int 53, .int 10, .none, .none],H))(ha:∀H,Re (d+23) ls H a (v,H)):∃H',Re (d+23) ls H (.meth (.new 24 as) 55 [a]) (.str (tx w x),H')/\Keep all H H':=by
 refine dq (RD (d:=d+22) (H:=H) (w:=w)) λaq e1 P1 K1=>?_;have r1:gI (n6 H.length (H.length+1) (H.length+2)) aq v x:=r.mono (λk c zz e=>by have:=bw e;exact⟨⟨aC this,aC (ou this),aC (al this (bu _ _))⟩,K1.at_ _ _ this e⟩) x v;refine aL (RC (d:=d) A P1 x r1 g h1 h2) λaO e2 K2=>?_;refine⟨aO,gC (gG hs rfl e1) P1.hc rfl rfl rfl (ak (ha _) ao) e2,aj K1.len K2.len,λk c zz e=>?_⟩;have:=bw e;exact K2.at_ _ _ (eC (aC this) (aC (ou this)) (aC (al this (bu _ _)))) (K1.at_ _ _ this e)
def O9(A:lj)(x:D)(r:gI all H v x)(g:x.good)(h1:sz x<=900000)(h2:(tx true x).length<=1000000):∃H',aP (d+24) H 120 [v] (.str (tx true x),H')/\Keep all H H':=by
 refine aL (Bc (d:=d) A x r g h1 h2 (ls:= [some v,some (.int 53),some (.int 10),some .none,some .none,none,none]) (as:= [.lit (.bool true), .v 1, .v 2, .v 3, .v 4]) (a:= .v 0) (gR (bV rfl (bV rfl (ak (ah rfl) (ak (ah rfl) ao))))) (λzz=>ah rfl)) λH' e K=>?_;exact bH H' (bx (F:=OL) rfl rfl rfl (fx e)) K
def RA(A:lj)(x:D)(r:gI all H v x)(g:x.good)(h1:sz x<=900000)(h2:(tx false x).length<=1000000):∃H',aP (d+24) H 121 [v] (.str (tx false x),H')/\Keep all H H':=by
 refine aL (Bc (d:=d) A x r g h1 h2 (ls:= [some v,some (.int 53),some (.int 10),some .none,none,none]) (as:= [.lit (.bool false), .v 1, .v 2, .v 3, .lit .none]) (a:= .v 0) (gR (bV rfl (bV rfl (ak (ah rfl) (ak az ao))))) (λzz=>ah rfl)) λH' e K=>?_;exact bH H' (bx (F:=OK) rfl rfl rfl (fx e)) K
end
end
mutual
abbrev LZ:Nat->Nat->List Nat
 | 0,_=> []
 | f+1,n=>match n with
  | 0=> []
  | n+1=>(48+(n+1) % 10)::LZ f ((n+1) / 10)
def sX:∀{n:Nat},n<=1000->bQ n=match n with | 0=> [48] | n+1=>(LZ 4 (n+1)).reverse:=by
 intro n h;have:((cR 1001).all λn=>decide (bQ n=match n with | 0=> [48] | n+1=>(LZ 4 (n+1)).reverse))=true:=by decide+kernel
 exact of_decide_eq_true (aS.mp this n (List.mem_range.mpr (k7 h)))
def ja{H:Hp}{s:List Nat}{i c:Nat}(h:s[i]? =some c)(hr:s.length<=1000000):rN H (.str s) (.int i)=some (.str [c]):=by
 show(wW i s.length).bind (λj=>(s[j]?).map λc=>AV.str [c])=_;unfold wW
 erw [aM hr]
 show(match cf i s.length with | true=>some i | false=>none).bind _=_
 erw [cL.mpr (aT.mp h).1]
 exact mo h
def Ic{H:Hp}{m:Nat}(h:m<10):rN H (.str [48,49,50,51,52,53,54,55,56,57,97,98,99,100,101,102]) (.int m)=some (.str [48+m]):=
 ja ((by decide:∀m<10,([48,49,50,51,52,53,54,55,56,57,97,98,99,100,101,102]:List Nat)[m]? =some (48+m)) m h) (ab rfl)
def wt:∀f n,(LZ f n).length<=f
 | 0,_=>aw _
 | f+1,0=>aX _
 | f+1,n+1=>dA (wt f _)
end
section
mutual
variable{d:Nat}{H aq aO H':Hp}
noncomputable abbrev QW:S:=(.while (.j .gt (.v 0) (.lit (.int 0))) [(.aS (.U [(.v 0),(.v 3)]) (.bi .divmod [(.v 0),(.v 1)])),(.expr (.meth (.v 2) 0 [(.idx (.lit (.str [48,49,50,51,52,53,54,55,56,57,97,98,99,100,101,102])) (.v 3))]))])
def Fj{n:Nat}:BR .divmod [.int n, .int 10] H=some (.U [.int ((n / 10:Nat):Int), .int ((n % 10:Nat):Int)],H):=by
 show eU (fQ 10 && !decide ((10:Int)=0)) (some (AV.U [.int (lh n 10), .int (gr n 10)],H))=_
 erw [(wj (i:=10) (al (show 10<2 ^ 4 from ab (n:=11) rfl) (cp (ab rfl) (ab rfl)))),(show lh n 10=((n / 10:Nat):Int)from by erw [(Int.fdiv_eq_ediv_of_nonneg _ (by decide))];rfl),(show gr n 10=((n % 10:Nat):Int)from by erw [(Int.fmod_eq_emod_of_nonneg _ (by decide))];rfl)]
 rfl
def yu{l4 l5:Option AV}:∀(f n:Nat) (us:List (List Nat)) (x3:Option AV),n<10 ^ f->us.length+f<=1000000->∃n' x3',Rs d [some (.int n),some (.int 10),some (.ref H.length),x3,l4,l5] (H++ [.list (us.map .str)]) QW (.next,[some n',some (.int 10),some (.ref H.length),x3',l4,l5],H++ [.list ((us++(LZ f n).map λc=> [c]).map .str)])
 | f,0,us,x3,_,_=>⟨_,_,by
  have:LZ f 0= []:=by induction f using bL <;> rfl
  erw [this,mS,bq]
  exact eR (cS rfl rfl)⟩
 | 0,n+1,us,x3,h,_=>absurd h (iA.mpr (eE _ _))
 | f+1,n+1,us,x3,h,hu=>by
  obtain⟨n',x3',e⟩:=yu f ((n+1) / 10) (us++ [[48+(n+1) % 10]]) (some (.int ((n+1) % 10:Nat))) (Nat.div_lt_of_lt_mul (by rw[Nat.pow_succ,Nat.mul_comm]at h;exact h)) (by erw [af];simp only[aI,dW];exact(bE (aJ (aJ ai (eS (aG 0))) ay) cX [(aJ ai cN,cX)] aR hu));refine ug n' x3' (eQ (cS rfl ?_) (lP (eH (bV rfl (bV rfl ao)) Fj) (mm (di (eh rfl) (di (eh rfl) jB))) (uv (ft (ah rfl) aU (dC az (ah rfl) (Ic (Nat.mod_lt _ (cH _)))) aU (aM (by erw [aK];exact(bE ai cX [(aJ ai cN,cX)] aR hu)))) ba)) ?_)
  ·exact dT (Int.natCast_pos.mpr (k6 _))
  ·erw [lC,(show us.map AV.str++ [.str [48+(n+1) % 10]]=(us++ [[48+(n+1) % 10]]).map .str from by erw [bp];rfl)]
   rw[aA]at e;exact e
end
end
mutual
def pU:∀l:List Nat,(l.map λc=> [c]).flatten=l
 | []=>rfl
 | c::r=>by show [c]++(r.map λc=> [c]).flatten=_;erw [pU r];rfl
def m6{n:Nat}(h:n<=1000):(bQ n).length<=4:=by
 erw [sX h]
 cases n using bL with
 | zero=>exact ab rfl
 | succ n=>erw [fR];exact wt _ _
end
section
mutual
variable{l k:Nat}{i:Int}{v:AV}{α:Type}{ls:Ls}
variable{d:Nat}{H aq aO H':Hp}
def Um{n:Nat}(h:n<=1000):∃H',aP (d+1) H 46 [.int n, .int 10] (.str (bQ n),H')/\Keep all H H':=by
 erw [sX h]
 cases n using bL with
 | zero=>exact bH H (bx (F:=Q5) rfl rfl rfl (mu (cS rfl rfl) (fx az))) Keep.refl
 | succ n=>
  refine y4 (yu (d:=d) (H:=H) (l4:=none) (l5:=none) 4 (n+1) [] none (fC h (ab rfl)) (ab rfl)) λn' x3' e=>?_;have l:=wt 4 (n+1);refine bH _ (bx (F:=Q5) rfl rfl rfl (ie (cS rfl (dF (mO.mpr (AJ n)))) (cK (fK ao (aM (aX _))) rfl (aB e (fx (CV (vs:=((LZ 4 (n+1)).map λc=> [c]).map .str) az (ah rfl) ?_ ?_)))))) Keep.app
  ·unfold aD;rewrite [fM];erw [aU];rfl
  ·erw [<- jj,(uQ (by erw [fR,aK];exact(cz ai cX [(ai,aG 4)] aR l)) (by erw [<- jj,pU,fR];exact(cz ai cX [(ai,aG 4)] aR l))),<- jj,pU];rfl
def Rr(h:i.natAbs<=1000):∃H',aP (d+2) H 47 [.int i, .int 10] (.str (dG i),H')/\Keep all H H':=by
 refine aL (Um (d:=d) (H:=H) h) λH' e K=>?_;have l:=m6 h;refine bH H' (bx (F:=SH) rfl rfl rfl (fx ?_)) K
 cases i using iu with
 | ofNat n=>exact bS (fz (cS rfl (dF (jf.mpr (fE n)))) az) (bg (ak (eH (bV rfl ao) rfl) (bV rfl ao)) e) (by show eU (cF (0+_)) _=_;erw [(aM (by exact(cz (aJ (aG 0) ai) cX [(ai,aG 4)] aR l)))];rfl)
 | negSucc n=>exact bS (eW (cS rfl (dT (Int.negSucc_lt_zero n))) az) (bg (ak (eH (bV rfl ao) rfl) (bV rfl ao)) e) (by show eU (cF (1+_)) _=_;erw [(aM (by exact(cz (aJ (aG 1) ai) cX [(ai,aG 4)] aR l)))];rfl)
def iX(h:i.natAbs<=1000):(dG i).length<=5:=by
 cases i using iu with
 | ofNat n=>exact gK (m6 h)
 | negSucc n=>exact dA (m6 h)
def Rq(h:i.natAbs<=1000):∃H',aP (d+3) H 48 [.int i, .int 10] (.str (dG i),H')/\Keep all H H':=by
 refine aL (Rr (d:=d) (H:=H) h) λH' e K=>?_;exact bH H' (bx (F:=Q4) rfl rfl rfl (ie (gE rfl (iY (ah rfl) rfl)) (fx (bg (bV rfl (ak (ah rfl) ao)) e)))) K
def d8{x y:List Nat}(h:x.length+y.length<=1000000):nW .add (.str x) (.str y) H=some (.str (x++y),H):=by show eU (cF (x.length+y.length)) _=_;erw [aM h];rfl
def Rp{a b:Int}(hk:Hk H k (.n 17 [(32, .int a),(33, .int b)]))(ha:a.natAbs<=1000)(hb:b.natAbs<=1000):∃H',aP (d+3) H 48 [.ref k, .int 10] (.str (dG a++ [47]++dG b),H')/\Keep all H H':=by
 refine aL (Rr (d:=d) (H:=H) ha) λaq e K=>?_;refine aL (Rr (d:=d) (H:=aq) hb) λaO e' K'=>?_;have l:=iX ha;have l':=iX hb;exact bH aO (bx (F:=Q4) rfl rfl rfl (mu (gE rfl (iY (ah rfl) (bY hk))) (fx (bS (bS (bg (ak (cB rfl hk rfl rfl) (bV rfl ao)) e) az (d8 (by show _+1<=_;exact(cz bf cX [(ai,aG 5)] aR l)))) (bg (ak (cB rfl (K.at_ _ _ trivial hk) rfl rfl) (bV rfl ao)) e') (d8 (by erw [af];show _+1+_<=_;exact(bE (aJ bf ay) cX [(ay,aG 5),(ai,aG 5)] aR l' l))))))) (K.trans K')
def Tf{q:Bool}(h:kh Mine.Internal.P H (.cls 16) v=some q):aP (d+1) H 28 [v] (.bool q,H):=bx (F:=SN) rfl rfl rfl (fx (iY (ah rfl) h))
def O6{s:List Nat}(h:kh Mine.Internal.P H (.cls 16) v=some false)(e:aP (d+3) H 48 [v, .int 10] (.str s,H')):aP (d+4) H 61 [.int 53,v, .int 10] (.str s,H'):=
 bx (F:=Q2) rfl rfl rfl (mu (uy (mv (bV rfl ao) (Tf h))) (fx (bg (bV rfl (ak (ah rfl) ao)) e)))
def yB{f:α->AV}{g:α->AV}{a:E}{i:Nat}{as:List α}(hl:Hk H l (.list (as.map f)))(hb:∀x∈as,∀(ls:Ls) H,cf i ls.length=true->Re d (ls.set i (some (f x))) H a (g x,H)):∀(m j:Nat) (us:List AV) (ls:Ls),cf i ls.length=true->as.length<=j+m->us.length+as.length<=1000000+j->
  lM d ls (H++ [.list us]) (.cell l j) (.one i) none a H.length (H++ [.list (us++(as.drop j).map g)]):=by
 have nx:∀(us:List AV) j,It.next (H++ [.list us]) (.cell l j)=some (((as.map f)[j]?).map λv=>(v, .cell l (j+1))):=λus j=>by
  show(aD (H++ [.list us]) l).map _=_
  unfold aD
  erw [bC hl]
  rfl
 intro m
 induction m with
 | zero=>
  intro j us ls hi hj hu;have e:as.drop j= []:=lg hj
  erw [e,mS,bq]
  exact gn (by erw [nx,(ey (by erw [aK];exact hj))];rfl)
 | succ m ih=>
  intro j us ls hi hj hu;cases ha:as[j]? with
  | none=>
   have hj':=fm.mp ha
   erw [lg hj',mS,bq]
   exact gn (by erw [nx,(ey (by erw [aK];exact hj'))];rfl)
  | some x=>
   obtain⟨hlt,hx⟩:=aT.mp ha;have e:=ih (j+1) (us++ [g x]) (ls.set i (some (f x))) (by erw [iM];exact hi) (by exact(gj ai (aJ cN bF) [(ai,aJ ay l9)] aR hj)) (by erw [af];show _+1+_<=_;exact(gj (aJ bf ay) (aJ cX l9) [(aJ ai ay,aJ cX bF)] aR hu));refine iZ (v:=f x) (it':= .cell l (j+1)) (by erw [nx,eu,ha];rfl) (bA:=ls.set i (some (f x))) (by show jg ls i (f x)=_;unfold jg;erw [hi];rfl) (hb x (bM ha) ls _ hi) aU (aM (by exact(gj ai cX [(aJ ai ay,aJ cX bF),(l9,ay)] aR hu hlt))) ?_
   erw [lC,e,aA,List.drop_eq_getElem_cons hlt,hx]
   rfl
def jt{vs:List AV}(h:Hk H l (.list vs)):gA H (.ref l)=some (.cell l 0):=by
 show(aD H l).map _=_;unfold aD
 erw [h]
 rfl
def JO{f:α->AV}{g:α->AV}{a b:E}{i:Nat}{as:List α}(hi:cf i ls.length=true)(hf:eV ls (.one i)=true)(ha:Re d ls H a (.ref l,H))(hl:Hk H l (.list (as.map f)))(hb:∀x∈as,∀(ls:Ls) H,cf i ls.length=true->Re d (ls.set i (some (f x))) H b (g x,H))(hr:as.length<=1000000):Re d ls H (.comp b (.one i) a false none) (.ref H.length,H++ [.list (as.map g)]):=
 kY hf ha (jt hl) (yB hl hb as.length 0 [] ls hi (by exact(cz ai (aJ (aG 0) ai) [] aR)) (by show 0+_<=_;exact(cz (aJ (aG 0) ai) (aJ cX (aG 0)) [(ai,cX)] aR hr)))
def JQ{c i:Nat}(hi:cf i ls.length=true)(hc:c<1114112):Re d (ls.set i (some (.int (c:Int)))) H (.bi .chr [.v i]) (.str [c],H):=
 eH (ak (ah (k8 (cL.mp hi))) ao) (by show eU (cf c 1114112) _=_;erw [cL.mpr hc];rfl)
def Ti{cs:List Nat}(hk:Hk H k (.n 5 [(19, .ref l)]))(hl:Hk H l (.list (cs.map λc:Nat=> .int c)))(hc:∀c∈cs,c<1114112)(hn:cs.length<=1000000):aP (d+1) H 19 [.ref k] (.str cs,H++ [.list ((cs.map λc=> [c]).map .str)]):=by
 have e:=oU (d:=d) (H:=H) (ps:=cs.map λc=> [c]) (ls:= [some (.ref k),none,none]) (JO (as:=cs) (f:=λc:Nat=> .int c) (g:=λc=> .str [c]) (i:=1) (a:= .aT (.v 0) 19) rfl rfl (cB rfl hk rfl rfl) hl (λc m ls H hi=>JQ hi (hc c m)) hn) (by show(_:Option Cell)=_;erw [aU,iC];rfl) (by erw [aK];exact hn) (by erw [pU];exact hn);rw[pU]at e
 erw [iC]
 exact bx (F:=SR) rfl rfl rfl (fx e)
end
end
mutual
def eq_str{H:Hp}{x y:List Nat}{q:Bool}(h:decide (x=y)=q):iI H .eq (.str x) (.str y)=some q:=congrArg some h
def mC{x y:Nat}(h:x≠y):decide ([x]= [y])=false:=decide_eq_false λe=>h (dB e).1
end
section
mutual
variable{c k:Nat}
variable{d:Nat}{H aq aO H':Hp}{v:AV}
def Th{q:Bool}(h:kh Mine.Internal.P H .bool v=some q):aP (d+1) H 21 [v] (.bool q,H):=bx (F:=SP) rfl rfl rfl (fx (iY (ah rfl) h))
def Ua:aP (d+1) H 84 [.str [c]] (if c=32 then .str [115,112,97,99,101]else if c=10 then .str [110,101,119,108,105,110,101]else .none,H):=by
 by_cases h1:c=32
 ·subst h1;exact bx (F:=PM) rfl rfl rfl (eP (mL az rfl (Bz rfl rfl (mu (gN (ah rfl) (ah rfl) rfl) (fx (ah rfl))))))
 ·erw [if_neg h1]
  by_cases h2:c=10
  ·subst h2;exact bx (F:=PM) rfl rfl rfl (eP (mL az rfl (fq rfl rfl (ie (gN (ah rfl) (ah rfl) rfl) ba) (Bz rfl rfl (mu (gN (ah rfl) (ah rfl) rfl) (fx (ah rfl)))))))
  ·erw [if_neg h2]
   exact bx (F:=PM) rfl rfl rfl (aB (mL az rfl (fq rfl rfl (ie (gN (ah rfl) (ah rfl) (eq_str (mC (Ne.symm h1)))) ba) (fq rfl rfl (ie (gN (ah rfl) (ah rfl) (eq_str (mC (Ne.symm h2)))) ba) (iH rfl)))) (fx az))
def oW(hc:c<1114112):BR .chr [.int (c:Int)] H=some (.str [c],H):=by show eU (cf c 1114112) _=_;erw [cL.mpr hc];rfl
def RH(hc:c<1114112):aP (d+2) H 110 [.int (c:Int)] (.str (gZ c),H):=by
 have e:=Ua (d:=d) (H:=H) (c:=c);unfold gZ;by_cases h1:c=32
 ·rw[if_pos h1]at e |-
  exact bx (F:=Im) rfl rfl rfl (cK (bg (ak (eH (bV rfl ao) (oW hc)) ao) e) rfl (fx (bS az (fz (cS rfl rfl) (ah rfl)) (d8 (ab rfl)))))
 ·rw[if_neg h1]at e |-
  by_cases h2:c=10
  ·rw[if_pos h2]at e |-
   exact bx (F:=Im) rfl rfl rfl (cK (bg (ak (eH (bV rfl ao) (oW hc)) ao) e) rfl (fx (bS az (fz (cS rfl rfl) (ah rfl)) (d8 (ab rfl)))))
  ·rw[if_neg h2]at e |-
   exact bx (F:=Im) rfl rfl rfl (cK (bg (ak (eH (bV rfl ao) (oW hc)) ao) e) rfl (fx (bS az (eW (cS rfl rfl) (eH (bV rfl ao) (oW hc))) (d8 (ab rfl)))))
def su{l0 l3 l4:Option AV}:∀(cs:List Nat) {H:Hp} {us:List (List Nat)} {x2:Option AV},Hk H k (.list (us.map .str))->us.length+2*cs.length<=1000000->
  ∃(H':Hp) (x2':Option AV) (us':List (List Nat)),lL d [l0,some (.ref k),x2,l3,l4] H (.str cs) (.one 2) [(.ite (.or (.j .eq (.v 2) (.lit (.str [34]))) (.j .eq (.v 2) (.lit (.str [92])))) [(.expr (.meth (.v 1) 0 [(.lit (.str [92]))]))] []),(.expr (.meth (.v 1) 0 [(.v 2)]))] (.next,[l0,some (.ref k),x2',l3,l4],H')/\Hk H' k (.list (us'.map .str))/\us'.flatten=us.flatten++cA cs/\us'.length<=us.length+2*cs.length/\Keep (·≠k) H H'
 | [],H,us,x2,h,hu=>(iR H x2 us (iH rfl) h ((bq _).symm) (bu _ _) Keep.refl)
 | c::cs,H,us,x2,h,hu=>by
  have hm:us.length+2*cs.length+2<=1000000:=hu;have r1:cF (us.map AV.str).length=true:=aM (by erw [aK];exact(bE ai cX [(aJ ai (fZ 2 cN),cX)] aR hu));by_cases hc:c=34\/c=92
  ·have g1:(H.set k (.list (us.map .str++ [.str [92]])))[k]? =_:=cO (bw h);have g2:Hk ((H.set k (.list (us.map .str++ [.str [92]]))).set k (.list (us.map .str++ [.str [92]]++ [.str [c]]))) k (.list ((us++ [[92],[c]]).map .str)):=by show(_:Option Cell)=_;erw [cO (bw g1)];simp
   obtain⟨H',x2',us',e,h',f,l,K⟩:=su cs (x2:=some (.str [c])) g2 (by erw [af];show _+2+_<=_;exact(bE (aJ (aJ ai (aG 2)) (fZ 2 ay)) cX [((aJ (aJ ai (fZ 2 ay)) (aG 2)),cX)] aR hm));refine iR H' x2' us' (fq rfl rfl (aB (ff ?_ (uv (ft (ah rfl) h az h r1) ba)) (uv (ft (ah rfl) g1 (ah rfl) g1 (aM (by erw [af,aK];show _+1<=_;exact(bE bf cX [((aJ (aJ ai (fZ 2 ay)) (aG 2)),cX)] aR hm)))) ba)) e) h' ?_ ?_ (((Keep.set λo=>o rfl).trans (Keep.set λo=>o rfl)).trans K)
   ·cases hc using cV with
    | inl hc=>exact zb (cS rfl (eq_str (by erw [hc];rfl)))
    | inr hc=>exact iP (cS rfl (eq_str (mC (by erw [hc];decide)))) (cS rfl (eq_str (by erw [hc];rfl)))
   ·erw [f];rewrite [cA];erw [if_pos hc];simp
   ·rw[af]at l;exact aj l (by show _+2+_<=_+2*(cs.length+1);exact(bE (aJ (aJ ai (aG 2)) (fZ 2 ay)) (aJ ai (fZ 2 cN)) [] aR))
  ·have g2:Hk (H.set k (.list (us.map .str++ [.str [c]]))) k (.list ((us++ [[c]]).map .str)):=by show(_:Option Cell)=_;erw [cO (bw h)];simp
   obtain⟨H',x2',us',e,h',f,l,K⟩:=su cs (x2:=some (.str [c])) g2 (by erw [af];show _+1+_<=_;exact(bE (aJ bf (fZ 2 ay)) cX [((aJ (aJ ai (fZ 2 ay)) (aG 2)),cX)] aR hm));refine iR H' x2' us' (fq rfl rfl (ie (iP (cS rfl (eq_str (mC λq=>hc (.inl q)))) (cS rfl (eq_str (mC λq=>hc (.inr q))))) (uv (ft (ah rfl) h (ah rfl) h r1) ba)) e) h' ?_ ?_ ((Keep.set λo=>o rfl).trans K)
   ·erw [f];rewrite [cA];erw [if_neg hc];simp
   ·rw[af]at l;exact aj l (by show _+1+_<=_+2*(cs.length+1);exact(bE (aJ bf (fZ 2 ay)) (aJ ai (fZ 2 cN)) [] aR))
def jN:∀cs:List Nat,(cA cs).length<=2*cs.length
 | []=>aw _
 | c::cs=>by
  have:=jN cs;unfold cA
  split <;> simp only[aI] <;> (first | lia | omega)
def RG{l:Nat}{cs:List Nat}(hk:Hk H k (.n 5 [(19, .ref l)]))(hl:Hk H l (.list (cs.map λc:Nat=> .int c)))(hc:∀c∈cs,c<1114112)(hn:cs.length<=400000):∃H',aP (d+2) H 111 [.ref k] (.str ([34]++cA cs++ [34]),H')/\Keep all H H':=by
 have K0:Keep all H (H++ [.list ([[34]].map .str)]):=Keep.app;have e0:=Ti (d:=d) (K0.at_ _ _ trivial hk) (K0.at_ _ _ trivial hl) hc (by exact(cz ai cX [(ai,aG 400000)] aR hn));refine jT (su (d:=d+1) (k:=H.length) (l0:=some (.ref k)) (l3:=none) (l4:=none) cs (us:= [[34]]) (x2:=none) (H:=(H++ [.list ([[34]].map .str)])++ [.list ((cs.map λc=> [c]).map .str)]) (bC aU) (by show 1+_<=_;exact(cz (aJ (aG 1) (fZ 2 ai)) cX [(ai,aG 400000),(ai,aG 400000)] aR hn hn))) λaq x2 us e1 h1 f1 l1 K1=>?_;have fl:(us++ [[34]]).flatten= [34]++cA cs++ [34]:=by erw [List.flatten_append,f1];rfl
 have le:=jN cs;have g:Hk (aq.set H.length (.list (us.map .str++ [.str [34]]))) (H.length) (.list ((us++ [[34]]).map .str)):=by show(_:Option Cell)=_;erw [cO (bw h1),bp];rfl
 have e2:=oU (d:=d+1) (ls:= [some (.ref k),some (.ref H.length),x2,none,none]) (a:= .v 1) (ah rfl) g (by erw [af];show _+1<=_;have:([[34]]:List (List Nat)).length=1:=rfl;exact(bE bf cX [(ai,(aJ (eS (aG 0)) (fZ 2 ay))),(ay,aG 400000),(ay,aG 400000)] aR l1 hn hn)) (by erw [fl];simp only[af,aI,dW];exact(bE (aJ (aJ (eS (aG 0)) ai) (eS (aG 0))) cX [(ai,fZ 2 ay),(ay,aG 400000),(ay,aG 400000)] aR le hn hn));rw[fl]at e2;have ne:∀{j:Nat} {c:Cell},Hk H j c->j≠H.length:=λh=>aC (bw h);refine⟨_,bx (F:=OR) rfl rfl rfl (cK (fK (gR ao) (aM (ab rfl))) rfl (aB (mL (bg (bV rfl ao) e0) rfl e1) (uv (ft (ah rfl) h1 az h1 (aM (by erw [aK];have:([[34]]:List (List Nat)).length=1:=rfl;exact(bE ai cX [(ai,(aJ (eS (aG 0)) (fZ 2 ay))),(ay,aG 400000),(ay,aG 400000)] aR l1 hn hn)))) (fx e2)))),?_,λj c zz h=>?_⟩
 ·erw [iM];exact aj (K0.trans (Keep.app (ok:=all))).len K1.len
 ·exact cW (ne h).symm (K1.at_ _ _ (ne h) (bC (bC h)))
end
end
mutual
abbrev tY:Prop:= ∀{d:Nat} {H:Hp} {k:Nat} {m e:Int},Hk H k (.n 16 [(30, .int m),(31, .int e)])->(m,e)∈mY->∃H',aP (d+15) H 60 [.int 53, .ref k] (.str (fP m e),H')/\Keep all H H'
def qe:∀c∈mi,c<1114112:=by decide
end
section
mutual
variable{ls:Ls}
variable{d:Nat}{H aq aO H':Hp}{v:AV}{k p q:Nat}{w:Bool}{ps:List (List Nat)}{n:Int}{ws:List AV}
def uK{c:IK}{p:List S}(hv:ls[1]? =some (some v))(h:kh Mine.Internal.P H c v=some false):Rs d ls H (.ite (.h (.v 1) c) p []) (.next,ls,H):=cU (gE rfl (iY (ah hv) h)) ba
def sY{p:List S}(hv:ls[1]? =some (some v))(h:kh Mine.Internal.P H .bool v=some false):Rs (d+1) ls H (.ite (.call 21 [.v 1]) p []) (.next,ls,H):=cU (mv (ak (ah hv) ao) (Th h)) ba
def Ht{p:List S}(hv:ls[1]? =some (some v))(h:Dk v (.obj 0)=some false):Rs d ls H (.ite (.j .is (.v 1) (.lit (.obj 0))) p []) (.next,ls,H):=cU (gN (ah hv) az h) ba
def RF(h:∀c,c∈[0,10,8,7,9]->kh Mine.Internal.P H (.cls c) v=some false):aP (d+1) H 112 [v] (.none,H):=by
 have s:∀{c:Nat} {p:List S},kh Mine.Internal.P H (.cls c) v=some false->Rs d [some v,none,none] H (.ite (.h (.v 0) (.cls c)) p []) (.next,[some v,none,none],H):=λh=>cU (gE rfl (iY (ah rfl) h)) ba;exact bx (F:=OQ) rfl rfl rfl (aB (s (h 0 (by decide))) (aB (s (h 10 (by decide))) (aB (s (h 8 (by decide))) (aB (s (h 7 (by decide))) (fx (fz (gE rfl (iY (ah rfl) (h 9 (by decide)))) az))))))
def FF{s:List Nat}(P:Pr H k p q w ps n ws)(hb:kh Mine.Internal.P H .bool v=some false)(h0:Dk v (.obj 0)=some false)(h:∀c,c∈[1,5,4,0,10,8,7,9]->kh Mine.Internal.P H (.cls c) v=some false)(e:aP (d+3) H 61 [.int 53,v, .int 10] (.str s,H')):aP (d+4) H 119 [.ref k,v] (.str s,H'):=
 bx (F:=Ak) rfl rfl rfl (aB (sY rfl hb) (aB (Ht rfl h0) (aB (uK rfl (h 1 (by decide))) (aB (uK rfl (h 5 (by decide))) (aB (uK rfl (h 4 (by decide))) (cK (bg (bV rfl ao) (RF λc m=>h c (List.mem_of_mem_drop (i:=3) m))) rfl (fx (eW (cS rfl rfl) (bg (ak (cB rfl P.hc rfl rfl) (bV rfl (ak (c9 (ah rfl) P.hc rfl rfl) ao))) e)))))))))
def Ro(R0:tY){m e:Int}(hk:Hk H k (.n 16 [(30, .int m),(31, .int e)]))(g:(m,e)∈mY):∃H',aP (d+16) H 61 [.int 53, .ref k, .int 10] (.str (fP m e),H')/\Keep all H H':=by
 refine aL (R0 (d:=d) hk g) λH' e1 K=>?_;exact bH H' (bx (F:=Q2) rfl rfl rfl (ie (uy (mv (bV rfl ao) (Tf (bY hk)))) (mu (cS rfl rfl) (fx (bg (ak (ah rfl) (ak (ah rfl) ao)) e1))))) K
def FQ(R0:tY):lj:=by
 intro d H k p q w ps n ws v x P r g ha;have ls:∀{v:AV},([some (.ref k),some v,none,none,none]:Ls)[1]? =some (some v):=rfl
 cases x using D.casesOn with
 | bool b=>
  cases (r:v=_)
  refine bH H (bx (F:=Ak) rfl rfl rfl (mu (mv (bV rfl ao) (Th rfl)) (eP (kH (v:= .str (tx w (.bool b))) ?_)))) Keep.refl
  cases b using aE with
  | true=>exact eW (gE rfl (ah rfl)) az
  | false=>exact fz (gE rfl (ah rfl)) az
 | empty=>
  cases (r:v=_)
  exact bH H (bx (F:=Ak) rfl rfl rfl (aB (sY rfl rfl) (mu (cS rfl rfl) (fx az)))) Keep.refl
 | sym s=>
  refine dX r λj m e zz h=>?_;subst e;exact bH H (bx (F:=Ak) rfl rfl rfl (aB (sY rfl (bY h)) (aB (Ht rfl rfl) (mu (gE rfl (iY (ah rfl) (bY h))) (fx (cB rfl h rfl rfl)))))) Keep.refl
 | text cs=>
  refine ua r λj l e zz h zy hl=>?_;subst e;have hc:∀c∈cs,c<1114112:=λc m=>qe c (g.2 c m);have hn:=g.1;have pre:∀{v':AV} {H':Hp},Re (d+19) [some (.ref k),some (.ref j),none,none,none] H (.ife (.aT (.v 0) 50) (.call 111 [.v 1]) (.call 19 [.v 1])) (v',H')->aP (d+20) H 119 [.ref k, .ref j] (v',H'):=λe=>bx (F:=Ak) rfl rfl rfl (aB (sY rfl (bY h)) (aB (Ht rfl rfl) (aB (uK rfl (bY h)) (mu (gE rfl (iY (ah rfl) (bY h))) (fx e)))))
  cases w using aE with
  | true=>
   refine aL (RG (d:=d+17) h hl hc (by exact(cz ai (aG 400000) [(ai,aG 4)] aR hn))) λH' e K=>?_;exact bH H' (pre (eW (gE rfl (cB rfl P.hc rfl rfl)) (bg (bV rfl ao) e))) K
  | false=>exact bH _ (pre (fz (gE rfl (cB rfl P.hc rfl rfl)) (bg (bV rfl ao) (Ti (cs:=cs) h hl hc (by exact(cz ai cX [(ai,aG 4)] aR hn)))))) Keep.app
 | char c=>
  refine dq r λj e zz h=>?_;subst e;have hc:c<1114112:=by
   cases g using cV with
   | inl g=>exact gJ g.2 (ab rfl)
   | inr g=>exact qe c g
  have pre:∀{v':AV} {H':Hp},Re (d+19) [some (.ref k),some (.ref j),none,none,none] H (.ife (.aT (.v 0) 50) (.call 110 [(.aT (.v 1) 18)]) (.bi .chr [(.aT (.v 1) 18)])) (v',H')->aP (d+20) H 119 [.ref k, .ref j] (v',H'):=λe=>bx (F:=Ak) rfl rfl rfl (aB (sY rfl (bY h)) (aB (Ht rfl rfl) (aB (uK rfl (bY h)) (aB (uK rfl (bY h)) (mu (gE rfl (iY (ah rfl) (bY h))) (fx e))))));refine bH H (pre ?_) Keep.refl
  cases w using aE with
  | true=>exact eW (gE rfl (cB rfl P.hc rfl rfl)) (bg (ak (cB rfl h rfl rfl) ao) (RH (d:=d+17) hc))
  | false=>exact fz (gE rfl (cB rfl P.hc rfl rfl)) (eH (ak (cB rfl h rfl rfl) ao) (oW hc))
 | int i=>
  cases (r:v=_)
  have g':i.natAbs<=1000:=by have g1:=g.1;have g2:=g.2;exact(pK (eB [_] [] 0 (.ik 0) (.ip (.iv 0) (.ic (aG 1000))) (.hz (.ik (-1000)) (.iv 0) .ho) (by kernel_rfl) g1) (eB [_] [] 0 (.iv 0) (.ic (aG 1000)) (.hz (.ip (.iv 0) (.ik 1)) (.ik 1000) .ho) (by kernel_rfl) g2))
  refine aL (Rq (d:=d+15) (H:=H) g') λH' e K=>?_;exact bH H' (FF (d:=d+16) P rfl rfl (by intro c m;simp only[aQ,lV,or_false]at m;rcases m with h | h | h | h | h | h | h | h <;> subst h <;> rfl) (O6 rfl e)) K
 | ratio a b=>
  refine dq r λj e zz h=>?_;subst e;obtain⟨g1,g2,z,g3,g4,g5⟩:=g;have ha:a.natAbs<=1000:=by
   have h1:b*z<=9*9:=by
    by_cases hz:0<=z
    ·exact t7 (by exact(eB [_] [] 0 (.iv 0) (.ik 9) (.hz (.ip (.iv 0) (.ik 1)) (.ik 10) .ho) aR g2)) (by exact(eB [_] [] 0 (.iv 0) (.ik 9) (.hz (.ip (.iv 0) (.ik 1)) (.ik 10) .ho) aR g4)) hz (by exact(eB [] [] 0 (.ik 0) (.ik 9) .ho aR))
    ·exact Int.le_trans (Int.mul_nonpos_of_nonneg_of_nonpos (by exact(eB [_] [] 0 (.ik 0) (.iv 0) (.hz (.ik 2) (.iv 0) .ho) aR g1)) (by exact(eB [_] [] 0 (.iv 0) (.ik 0) (.hz (.ip (.iv 0) (.ik 1)) (.ik 0) .ho) aR (wN.mp hz)))) (by decide)
   have h2:-(9*10)<=b*z:=by
    by_cases hz:0<=z
    ·exact Int.le_trans (by decide) (Int.mul_nonneg (by exact(eB [_] [] 0 (.ik 0) (.iv 0) (.hz (.ik 2) (.iv 0) .ho) aR g1)) hz)
    ·have:=t7 (a:=b) (b:= -z) (c:=9) (d:=10) (by exact(eB [_] [] 0 (.iv 0) (.ik 9) (.hz (.ip (.iv 0) (.ik 1)) (.ik 10) .ho) aR g2)) (by exact(eB [_] [] 0 (.ig (.iv 0)) (.ik 10) (.hz (.ik (-10)) (.iv 0) .ho) (by kernel_rfl) g3)) (by exact(eB [_] [] 0 (.ik 0) (.ig (.iv 0)) (.hz (.ip (.iv 0) (.ik 1)) (.ik 0) .ho) aR (wN.mp hz))) (by exact(eB [] [] 0 (.ik 0) (.ik 9) .ho aR));rw[Int.mul_neg]at this;exact(eB [_] [] 0 (.ig (.im 9 (.ik 10))) (.iv 0) (.hz (.ig (.iv 0)) (.im 9 (.ik 10)) .ho) aR this)
   exact(pK (eB [_,_] [] 0 (.ik 0) (.ip (.iv 0) (.ic (aG 1000))) (.hz (.ip (.iv 1) (.ik 1)) (.iv 0) (.hz (.ig (.im 9 (.ik 10))) (.iv 1) .ho)) aR (wR g5) h2) (eB [_,_] [] 0 (.iv 0) (.ic (aG 1000)) (.hz (.iv 0) (.ip (.iv 1) (.ik 1)) (.hz (.iv 1) (.im 9 (.ik 9)) .ho)) aR (wU g5) h1))
  refine aL (Rp (d:=d+15) h ha (by exact(pK (eB [_] [] 0 (.ik 0) (.ip (.iv 0) (.ic (aG 1000))) (.hz (.ik 2) (.iv 0) .ho) aR g1) (eB [_] [] 0 (.iv 0) (.ic (aG 1000)) (.hz (.ip (.iv 0) (.ik 1)) (.ik 10) .ho) aR g2)))) λH' e K=>?_;exact bH H' (FF (d:=d+16) P (bY h) rfl (by intro c m;erw [bY h];simp only[aQ,lV,or_false]at m;rcases m with h | h | h | h | h | h | h | h <;> subst h <;> rfl) (O6 (bY h) e)) K
 | real a b=>
  refine dq r λj e zz h=>?_;subst e;refine aL (Ro (d:=d+3) R0 h g) λH' e K=>?_;exact bH H' (FF (d:=d+16) P (bY h) rfl (by intro c m;erw [bY h];simp only[aQ,lV,or_false]at m;rcases m with h | h | h | h | h | h | h | h <;> subst h <;> rfl) e) K
 | _=>exact nomatch ha
end
end
section
variable(n:Nat)
mutual
/-- -/
noncomputable def sh:AV->AV
 | .ref i=> .ref (i+n)
 | .U vs=> .U (shs vs)
 | .a vs=> .a (shs vs)
 | v=>v
noncomputable def shs:List AV->List AV
 | []=> []
 | v::r=>sh v::shs r
end
mutual
abbrev Jl:Cell->Cell
 | .list vs=> .list (shs n vs)
 | .n c fs=> .n c (fs.map λp=>(p.1,sh n p.2))
 | .dict es=> .dict es
end
end
mutual
abbrev G(H h:Hp):Hp:=H++h.map (Jl H.length)
abbrev jR(n:Nat)(ls:Ls):Ls:=ls.map λo=>o.map (sh n)
end
section
mutual
variable{n:Nat}
def iQ:∀vs:List AV,shs n vs=vs.map (sh n)
 | []=>rfl
 | v::r=>congrArg (sh n v::·) (iQ r)
def fO(vs:List AV):(shs n vs).length=vs.length:=by erw [iQ,aK];rfl
def A3(vs:List AV)(i:Nat):(shs n vs)[i]? =(vs[i]?).map (sh n):=by erw [iQ,eu];rfl
def vH(us vs:List AV):shs n (us++vs)=shs n us++shs n vs:=by erw [iQ,iQ,iQ,bp];rfl
def A5:∀ss:List (List Nat),shs n (ss.map .str)=ss.map .str
 | []=>rfl
 | s::r=>congrArg (AV.str s::·) (A5 r)
end
mutual
/-- -/
theorem GE:∀v:AV,mV (sh n v)=mV v
 | .none=>rfl
 | .bool _=>rfl
 | .int _=>rfl
 | .str _=>rfl
 | .U vs=>congrArg (λx=>x.map PyData.tuple) (toPDs_sh vs)
 | .a _=>rfl
 | .obj _=>rfl
 | .rng _ _ _=>rfl
 | .ref _=>rfl
theorem toPDs_sh:∀vs:List AV,toPDs (shs n vs)=toPDs vs
 | []=>rfl
 | v::r=>by show(match mV (sh n v),toPDs (shs n r)with | some x,some y=>some (x::y) | _,_=>none)=_;erw [GE v,toPDs_sh r];rfl
end
mutual
/-- -/
theorem zi:∀v:AV,(mV v).isSome=true->sh n v=v
 | .none,_=>rfl
 | .bool _,_=>rfl
 | .int _,_=>rfl
 | .str _,_=>rfl
 | .U vs,h=>congrArg AV.U (shs_lit vs (by rw[show mV (.U vs)=(toPDs vs).map PyData.tuple from rfl,Option.isSome_map]at h;exact h))
theorem shs_lit:∀vs:List AV,(toPDs vs).isSome=true->shs n vs=vs
 | [],_=>rfl
 | v::r,h=>by
  rw[show toPDs (v::r)=(match mV v,toPDs r with | some x,some y=>some (x::y) | _,_=>none)from rfl]at h;cases h1:mV v with
  | none=>rw[h1]at h;exact nomatch h
  | some x=>cases h2:toPDs r with
   | none=>rw[h1,h2]at h;exact nomatch h
   | some y=>
    show sh n v::shs n r=_
    erw [(zi v (by erw [h1];rfl)),(shs_lit r (by erw [h2];rfl))];rfl
end
end
section
mutual
variable{i:Nat}
variable{H h h':Hp}{x y z v:AV}{r:AV×Hp}{q:Bool}
def y3:(G H h).length=h.length+H.length:=by unfold G;erw [af,aK,dn];rfl
def t8(i:Nat):(G H h)[i+H.length]? =(h[i]?).map (Jl H.length):=by unfold G;erw [de (eE _ _),wL,eu];rfl
def Gg(c:Cell):G H h++ [Jl H.length c]=G H (h++ [c]):=by unfold G;erw [aA,bp];rfl
def J4(i:Nat)(c:Cell):(G H h).set (i+H.length) (Jl H.length c)=G H (h.set i c):=by unfold G;erw [List.set_append_right _ _ (eE _ _),wL,List.map_set];rfl
def Gf{vs:List AV}(e:aD h i=some vs):aD (G H h) (i+H.length)=some (shs H.length vs):=by
 unfold aD at e |-
 erw [t8]
 cases hc:h[i]? with
 | none=>rw[hc]at e;exact nomatch e
 | some c=>cases c using Cell.casesOn with
  | list us=>rw[hc]at e;(replace e:=ae e;subst e);rfl
  | _=>rw[hc]at e;exact nomatch e
def fX:aD (G H h) (i+H.length)=(aD h i).map (shs H.length):=by
 unfold aD
 erw [t8]
 cases h[i]? with
 | none=>rfl
 | some c=>induction c using Cell.casesOn <;> rfl
def wg(f:Nat):∀fs:List (Nat×AV),jw f (fs.map λp=>(p.1,sh H.length p.2))=(jw f fs).map (sh H.length)
 | []=>rfl
 | (g,u)::r=>by
  show(match aW g f with | true=>some (sh H.length u) | false=>jw f (r.map _))=(match aW g f with | true=>some u | false=>jw f r).map _
  erw [wg f r]
  cases aW g f <;> rfl
def A7(f:Nat)(v:AV):∀fs:List (Nat×AV),oH f (sh H.length v) (fs.map λp=>(p.1,sh H.length p.2))=(oH f v fs).map λp=>(p.1,sh H.length p.2)
 | []=>rfl
 | (g,u)::r=>by
  show(match aW g f with | true=>(f,sh H.length v)::(r.map _) | false=>(g,sh H.length u)::oH f (sh H.length v) (r.map _))=(match aW g f with | true=>(f,v)::r | false=>(g,u)::oH f v r).map _
  erw [A7 f v r]
  cases aW g f <;> rfl
end
end
section
variable{β:Type}{r:β}{C:Prop}{x:AV}{args:List AV}
end
section
mutual
variable{b:Bool}
variable{α α' β β' γ γ':Type}{r:β}{r':β'}{H h h':Hp}{n:Nat}{x:AV}{args:List AV}
def bG{x:Option (α×Hp)}{f:α×Hp->Option β}{x':Option (α'×Hp)}{f':α'×Hp->Option β'}{s:α->α'}(e:x.bind f=some r)(h1:∀{a h1},x=some (a,h1)->x'=some (s a,G H h1))(h2:∀a h1,f (a,h1)=some r->f' (s a,G H h1)=some r'):x'.bind f'=some r':=
 cD e λa b q e=>by erw [h1 q];exact h2 a b e
def RP{x:Option (α×γ×Hp)}{f:α×γ×Hp->Option β}{x':Option (α'×γ'×Hp)}{f':α'×γ'×Hp->Option β'}{s:α->α'}{t:γ->γ'}(e:x.bind f=some r)(h1:∀{a c h1},x=some (a,c,h1)->x'=some (s a,t c,G H h1))(h2:∀a c h1,f (a,c,h1)=some r->f' (s a,t c,G H h1)=some r'):x'.bind f'=some r':=
 cD e λa b q e=>by erw [h1 (c:=b.1) (h1:=b.2) q];exact h2 a b.1 b.2 e
def mG{x:Option (α×Hp)}{f:α×Hp->β}{x':Option (α'×Hp)}{f':α'×Hp->β'}{s:α->α'}(e:x.map f=some r)(h1:∀{a h1},x=some (a,h1)->x'=some (s a,G H h1))(h2:∀a h1,f (a,h1)=r->f' (s a,G H h1)=r'):x'.map f'=some r':=
 ke e λa q e=>by erw [h1 (a:=a.1) (h1:=a.2) q];exact congrArg some (h2 a.1 a.2 e)
def oG{x:Option α}{f:α->Option β}{x':Option α'}{f':α'->Option β'}{s:α->α'}(e:x.bind f=some r)(h1:x'=x.map s)(h2:∀a,f a=some r->f' (s a)=some r'):x'.bind f'=some r':=
 cJ e λa q e=>by erw [h1,q];exact h2 a e
def eG{x x':Option α}{f:α->Option β}{f':α->Option β'}(e:x.bind f=some r)(h1:x'=x)(h2:∀a,f a=some r->f' a=some r'):x'.bind f'=some r':=
 cJ e λa q e=>by erw [h1,q];exact h2 a e
def oM{x:Option α}{f:α->β}{x':Option α'}{f':α'->β'}{s:α->α'}(e:x.map f=some r)(h1:x'=x.map s)(h2:∀a,f a=r->f' (s a)=r'):x'.map f'=some r':=
 ke e λa q e=>by erw [h1,q];exact congrArg some (h2 a e)
def eM{x x':Option α}{f:α->β}{f':α->β'}(e:x.map f=some r)(h1:x'=x)(h2:∀a,f a=r->f' a=r'):x'.map f'=some r':=
 ke e λa q e=>by erw [h1,q];exact congrArg some (h2 a e)
def rW{b':Bool}{x:Option β}{x':Option β'}(e:eU b x=some r)(q:b'=b)(k:x=some r->x'=some r'):eU b' x'=some r':=kA e λt e=>by erw [q,t];exact k e
def rB{x y:Option β}{x' y':Option β'}(e:cond b x y=some r)(k:x=some r->x'=some r')(k':y=some r->y'=some r'):cond b x' y'=some r':=by
 cases b using aE with | true=>exact k e | false=>exact k' e
def FS{k:Option β}{k':Option β'}(e:FU args k=some r)(g:k=some r->k'=some r'):FU (shs n args) k'=some r':=by
 cases args using au with | nil=>exact g e | cons zz zy=>exact dz e
def wB{k:AV->Option β}{k':AV->Option β'}(e:qh args k=some r)(g:∀x,k x=some r->k' (sh n x)=some r'):qh (shs n args) k'=some r':=by
 cases args using au with | nil=>exact dz e | cons x l=>exact FS e (g x)
def IS{k:AV->AV->Option β}{k':AV->AV->Option β'}(e:JZ args k=some r)(g:∀x y,k x y=some r->k' (sh n x) (sh n y)=some r'):JZ (shs n args) k'=some r':=by
 cases args using au with | nil=>exact dz e | cons x l=>exact wB e (g x)
def tq{k:Int->Option β}{k':Int->Option β'}(e:fL x k=some r)(g:∀i,k i=some r->k' i=some r'):fL (sh n x) k'=some r':=by
 cases x using AV.casesOn with | int i=>exact g i e | _=>exact dz e
def vy{k:List Nat->Option β}{k':List Nat->Option β'}(e:il x k=some r)(g:∀i,k i=some r->k' i=some r'):il (sh n x) k'=some r':=by
 cases x using AV.casesOn with | str i=>exact g i e | _=>exact dz e
def Pw{k:Bool->Option β}{k':Bool->Option β'}(e:tT x k=some r)(g:∀i,k i=some r->k' i=some r'):tT (sh n x) k'=some r':=by
 cases x using AV.casesOn with | bool i=>exact g i e | _=>exact dz e
def G2{k:Nat->Option β}{k':Nat->Option β'}(e:nA x k=some r)(g:∀i,k i=some r->k' (i+n)=some r'):nA (sh n x) k'=some r':=by
 cases x using AV.casesOn with | ref i=>exact g i e | _=>exact dz e
def Qn{i:Int}{k:Nat->Option β}{k':Nat->Option β'}(e:vh i k=some r)(g:∀i,k i=some r->k' i=some r'):vh i k'=some r':=by
 cases i using iu with | ofNat i=>exact g i e | negSucc zz=>exact dz e
def MV{w:List Nat}{k:Nat->Option β}{k':Nat->Option β'}(e:qh w k=some r)(g:∀i,k i=some r->k' i=some r'):qh w k'=some r':=by
 cases w using au with
 | nil=>exact dz e
 | cons c t=>cases t using au with | nil=>exact g c e | cons zz zy=>exact dz e
def iV{a v:α}{a':α'}{s:α->α'}(e:(a,h)=(v,h'))(q:a'=s a):(a',G H h)=(s v,G H h'):=by
 erw [q,(aH e).1,(aH e).2];rfl
def jx{a v:α}{a':α'}{s:α->α'}(e:some (a,h)=some (v,h'))(q:a'=s a):some (a',G H h)=some (s v,G H h'):=congrArg some (iV (ae e) q)
def wC{c c':Cell}{v:AV}(e:some (lK h c)=some (v,h'))(q:c'=Jl H.length c):some (lK (G H h) c')=some (sh H.length v,G H h'):=by
 have e:=ae e
 erw [q,<- (aH e).1,<- (aH e).2]
 unfold lK
 erw [Gg,y3]
 rfl
end
end
section
mutual
variable{n m:Nat}{β:Type}
variable{H h h':Hp}{x y z v:AV}{q:Bool}{args:List AV}
def tS{k:Int->Option β}:fL (sh n x) k=fL x k:=by induction x using AV.casesOn <;> rfl
def FR{k:List Nat->Option β}:il (sh n x) k=il x k:=by induction x using AV.casesOn <;> rfl
def GY:∀y:AV,D4 (G H h) (sh H.length y)=(D4 h y).map (shs H.length)
 | .ref i=>fX
 | .a _=>rfl
 | .none=>rfl
 | .bool _=>rfl
 | .int _=>rfl
 | .str _=>rfl
 | .U _=>rfl
 | .obj _=>rfl
 | .rng _ _ _=>rfl
def OF{o:O2}(e:nW o x y h=some (v,h')):nW o (sh H.length x) (sh H.length y) (G H h)=some (sh H.length v,G H h'):=by
 cases x using AV.casesOn with
 | int i=>exact tq e λj e=>eM e rfl λa e=>iV e rfl
 | bool b=>exact rW e rfl λe=>Pw e λc e=>jx e rfl
 | str s=>exact rB e (λe=>vy e λt e=>rW e rfl λe=>jx e rfl) λe=>rW e rfl λe=>tq e λj e=>rW e rfl λe=>jx e rfl
 | ref k=>
  exact rW e rfl λe=>oG e fX λus e=>oG e (GY y) λws e=>rW e (by erw [fO,fO];rfl) λe=>wC e (congrArg Cell.list (vH us ws).symm)
 | _=>exact dz e
def OE:Gi (G H h) (sh H.length x) (sh H.length y)=Gi h x y:=by
 cases x using AV.casesOn with
 | int i=>exact tS
 | str s=>exact FR
 | ref i=>cases y using AV.casesOn with
  | ref j=>
   show(aD (G H h) (i+H.length)).bind (λx=>(aD (G H h) (j+H.length)).bind λy=>cond (aW x.length y.length) (CU ((toPDs x).map .list) ((toPDs y).map .list)) (some false))=_
   erw [fX,fX]
   show _=(aD h i).bind (λx=>(aD h j).bind λy=>cond (aW x.length y.length) (CU ((toPDs x).map .list) ((toPDs y).map .list)) (some false));cases aD h i with
   | none=>rfl
   | some us=>cases aD h j with
    | none=>rfl
    | some ws=>
     show cond (aW (shs H.length us).length (shs H.length ws).length) (CU ((toPDs (shs H.length us)).map .list) ((toPDs (shs H.length ws)).map .list)) (some false)=_
     erw [fO,fO,toPDs_sh,toPDs_sh];rfl
  | _=>rfl
 | U us=>cases y using AV.casesOn with
  | U ws=>show CU ((toPDs (shs H.length us)).map .tuple) ((toPDs (shs H.length ws)).map .tuple)=_;erw [toPDs_sh,toPDs_sh];rfl
  | _=>rfl
 | _=>rfl
def IM(i j n:Nat):aW (i+n) (j+n)=aW i j:=Bool.eq_iff_iff.mpr (by erw [Nat.beq_eq,Nat.beq_eq];exact Nat.add_right_cancel_iff)
def OB:Dk (sh H.length x) (sh H.length y)=Dk x y:=by
 cases y using AV.casesOn with
 | ref j=>cases x using AV.casesOn with
  | ref i=>exact congrArg some (IM i j _)
  | _=>rfl
 | _=>induction x using AV.casesOn <;> rfl
def qu:∀vs:List AV,gX (shs H.length vs)=gX vs
 | []=>rfl
 | .str s::r=>congrArg (λz=>z.map (s::·)) (qu r)
 | .none::_=>rfl
 | .bool _::_=>rfl
 | .int _::_=>rfl
 | .U _::_=>rfl
 | .a _::_=>rfl
 | .obj _::_=>rfl
 | .rng _ _ _::_=>rfl
 | .ref _::_=>rfl
def OC:N9 (sh H.length x) (sh H.length y)=N9 x y:=by
 cases x using AV.casesOn with
 | str s=>cases y using AV.casesOn with
  | U vs=>show(gX (shs H.length vs)).map _=_;erw [qu];rfl
  | _=>rfl
 | _=>rfl
def OA{o:CO}:zL o (sh H.length x) (sh H.length y)=zL o x y:=by
 cases x using AV.casesOn with
 | int i=>exact tS (k:=λj=>Ef o i j)
 | _=>rfl
def Fb{o:CO}:iI (G H h) o (sh H.length x) (sh H.length y)=iI h o x y:=by
 cases o using CO.casesOn with
 | eq=>exact OE
 | ne=>exact congrArg (λz=>z.map (!·)) OE
 | is=>exact OB
 | isnot=>exact congrArg (λz=>z.map (!·)) OB
 | isin=>exact OC
 | notin=>exact congrArg (λz=>z.map (!·)) OC
 | _=>exact OA
def v7{vs:List AV}{i:Int}:rO (shs H.length vs) i=(rO vs i).map (sh H.length):=by
 unfold rO
 erw [fO]
 cases wW i vs.length with
 | none=>rfl
 | some j=>exact A3 vs j
def OD:rN (G H h) (sh H.length x) (sh H.length y)=(rN h x y).map (sh H.length):=by
 show fL (sh H.length y) (λi=>HO (G H h) i (sh H.length x))=_
 erw [tS]
 cases y using AV.casesOn with
 | int i=>
  show HO (G H h) i (sh H.length x)=(HO h i x).map (sh H.length)
  cases x using AV.casesOn with
  | str s=>
   show(wW i s.length).bind (λj=>(s[j]?).map λc=>AV.str [c])=((wW i s.length).bind (λj=>(s[j]?).map λc=>AV.str [c])).map (sh H.length);cases wW i s.length with
   | none=>rfl
   | some j=>show(s[j]?).map _=((s[j]?).map _).map _;cases s[j]? <;> rfl
  | U vs=>exact v7
  | a vs=>exact v7
  | ref k=>
   show(aD (G H h) (k+H.length)).bind (λvs=>rO vs i)=((aD h k).bind λvs=>rO vs i).map (sh H.length)
   erw [fX]
   cases aD h k with
   | none=>rfl
   | some vs=>exact v7
  | _=>rfl
 | _=>rfl
def LQ{f:Nat}:vf P (G H h) (sh H.length x) f=(vf P h x f).map (sh H.length):=by
 cases x using AV.casesOn with
 | ref i=>
  show((G H h)[i+H.length]?).bind (FP P f)=((h[i]?).bind (FP P f)).map _
  erw [t8]
  cases h[i]? with
  | none=>rfl
  | some c=>cases c using Cell.casesOn with
   | n c fs=>
    show eU (wQ P c f) (jw f (fs.map _))=(eU (wQ P c f) (jw f fs)).map _
    erw [wg]
    cases wQ P c f <;> rfl
   | _=>rfl
 | _=>rfl
def E9:kO P (G H h) (sh H.length x) m=kO P h x m:=by
 cases x using AV.casesOn with
 | ref i=>
  show((G H h)[i+H.length]?).bind (xI P m)=(h[i]?).bind (xI P m)
  erw [t8]
  cases h[i]? with
  | none=>rfl
  | some c=>cases c using Cell.casesOn with
   | n c fs=>
    show(match jw m (fs.map _)with | none=>(P.clss[c]?).bind λC=>C.meths.lookup m | some zz=>none)=(match jw m fs with | none=>(P.clss[c]?).bind λC=>C.meths.lookup m | some zz=>none)
    erw [wg]
    cases jw m fs <;> rfl
   | _=>rfl
 | _=>rfl
def Oz:j9 (G H h) (sh H.length x) m=j9 h x m:=by
 cases x using AV.casesOn with
 | ref i=>
  show lE m (G H h)[i+H.length]? =lE m h[i]?
  erw [t8]
  cases h[i]? with
  | none=>rfl
  | some c=>induction c using Cell.casesOn <;> rfl
 | _=>rfl
def rZ:gW (sh n x)=gW x:=by induction x using AV.casesOn <;> rfl
end
end
section
mutual
variable{n:Nat}{vs:List AV}
variable{H h h':Hp}{x y z v:AV}{q:Bool}{args:List AV}{s:List Nat}{m:Nat}
def qf{k:Nat}{o:Option AV}:mI k (o.map (sh n))=mI k o:=by
 cases o using bb with
 | none=>rfl
 | some v=>induction v using AV.casesOn <;> rfl
def L5{i j:Nat}:((shs n vs).take j).drop i=shs n ((vs.take j).drop i):=by erw [iQ,iQ,List.map_drop,List.map_take];rfl
def Ig{lo hi:Option AV}(e:iw x lo hi h=some (v,h')):iw (sh H.length x) (lo.map (sh H.length)) (hi.map (sh H.length)) (G H h)=some (sh H.length v,G H h'):=by
 cases x using AV.casesOn with
 | str s=>exact rW e rfl λe=>eG e qf λi e=>eM e qf λj e=>iV e rfl
 | a vs=>exact rW e (congrArg cF (fO vs)) λe=>eG e qf λi e=>eM e ((congrArg (λk=>mI k _) (fO vs)).trans qf) λj e=>ae (wC (congrArg some e) (congrArg Cell.list L5))
 | _=>exact dz e
def Lq:EF (G H h) (sh H.length x)=EF h x:=by
 cases x using AV.casesOn with
 | U vs=>exact congrArg some (fO vs)
 | a vs=>exact congrArg some (fO vs)
 | ref k=>show(aD (G H h) (k+H.length)).map je=(aD h k).map je;erw [fX];cases aD h k with | none=>rfl | some vs=>exact congrArg some (fO vs)
 | _=>rfl
def FH(vs:List AV):lJ (shs n vs)=lJ vs:=by
 induction vs with
 | nil=>rfl
 | cons a r ih=>cases a using AV.casesOn with
  | bool b=>exact congrArg (λz=>z.map (b::·)) ih
  | _=>rfl
def QY{b:BI}(hb:(match b with | .list=>false | .tuple=>false | .range=>false | .chr=>false | .ord=>false | .int=>false | .str=>false | _=>true)=true)(e:BR b args h=some (v,h')):BR b (shs H.length args) (G H h)=some (sh H.length v,G H h'):=by
 cases b using BI.casesOn with
 | abs=>exact wB e λx e=>tq e λi e=>jx e rfl
 | len=>exact wB e λx e=>eG e Lq λn e=>rW e rfl λe=>jx e rfl
 | divmod=>exact IS e λx y e=>tq e λi e=>tq e λj e=>rW e rfl λe=>jx e rfl
 | max=>exact IS e λx y e=>tq e λi e=>tq e λj e=>jx e rfl
 | min=>exact IS e λx y e=>tq e λi e=>tq e λj e=>jx e rfl
 | all=>exact wB e λx e=>G2 e λk e=>oG e fX λvs e=>eM e (FH vs) λbs e=>iV e rfl
 | _=>exact nomatch hb
def xV:j2 s (shs H.length vs)=(j2 s vs).map (sh H.length):=by
 unfold j2
 erw [qu,fO]
 cases gX vs with
 | none=>rfl
 | some xs=>show(match _ with | true=>_ | false=>_)=qY _ (match _ with | true=>_ | false=>_);cases cF (xs.foldr (λx n=>x.length+s.length+n) 0) && cF vs.length <;> rfl
def LP(e:Bt s args h=some (v,h')):Bt s (shs H.length args) (G H h)=some (sh H.length v,G H h'):=by
 cases args using au with
 | nil=>exact dz e
 | cons x r=>cases r using au with
  | nil=>exact vy e λw e=>MV e λc e=>jx e rfl
  | cons y r=>exact vy e λw e=>MV e λc e=>FS e λe=>tq e λi e=>Qn e λz e=>jx e rfl
def LO(e:uc s m args h=some (v,h')):uc s m (shs H.length args) (G H h)=some (sh H.length v,G H h'):=
 rB e LP λe=>rB e (λe=>wB e λx e=>vy e λw e=>MV e λc e=>eM e rfl λi e=>iV e rfl) λe=>
 rB e (λe=>wB e λx e=>G2 e λk e=>oG e fX λvs e=>oM e xV λu e=>iV e rfl) λe=>
 rB e (λe=>FS e λe=>rW e rfl λe=>eM e rfl λu e=>iV e rfl) λe=>
 rB e (λe=>IS e λx y e=>vy e λw e=>MV e λc e=>vy e λw' e=>rW e rfl λe=>jx e rfl) λe=>
 rB e (λe=>wB e λx e=>vy e λw e=>MV e λc e=>rW e rfl λe=>jx e rfl) λe=>
 rW e rfl λe=>wB e λx e=>vy e λw e=>MV e λc e=>rW e rfl λe=>wC e (congrArg Cell.list (A5 _).symm)
end
end
mutual
abbrev Jj(n:Nat):It->It
 | .vals vs=> .vals (shs n vs)
 | .cell k i=> .cell (k+n) i
 | it=>it
abbrev Jk(n:Nat):Fl->Fl
 | .ret v=> .ret (sh n v)
 | f=>f
end
section
mutual
variable{vs:List AV}{k:Nat}{c:Cell}{t:PT}
variable{H h h':Hp}{x y z v:AV}{q:Bool}{args:List AV}{s:List Nat}{m:Nat}{ls ls':Ls}{n:Nat}
def DW:(shs n vs).dropLast=shs n vs.dropLast:=by erw [iQ,iQ,List.map_dropLast];rfl
def DV:(shs n vs).getLast? =vs.getLast?.map (sh n):=by erw [iQ,List.getLast?_map];rfl
def EZ(k:Nat):(G H h)[k+H.length]? =(h[k]?).map (Jl H.length):=t8 k
def Nz{a:AV}{c':Cell}(e:some (a,h.set k c)=some (v,h'))(q:c'=Jl H.length c):some (sh H.length a,(G H h).set (k+H.length) c')=some (sh H.length v,G H h'):=by
 have e:=aH (ae e)
 erw [q,J4,e.1,e.2];rfl
def Ij(hm:aW m 2=false)(e:Fz k m args h c=some (v,h')):Fz (k+H.length) m (shs H.length args) (G H h) (Jl H.length c)=some (sh H.length v,G H h'):=by
 cases c using Cell.casesOn with
 | list vs=>
  exact rB e (λe=>wB e λx e=>rW e (congrArg cF (fO vs)) λe=>Nz (a:= .none) e (congrArg Cell.list (vH vs [x]).symm)) λe=>rW e rfl λe=>FS e λe=>rW e (congrArg cF (fO vs)) λe=>
   oM e DV λx e=>ae (Nz (congrArg some e) (congrArg Cell.list DW))
 | dict es=>exact kA e λq e=>nomatch hm.symm.trans q
 | n zz zy=>exact dz e
def BD(hm:aW m 2=false)(e:kM x m args h=some (v,h')):kM (sh H.length x) m (shs H.length args) (G H h)=some (sh H.length v,G H h'):=by
 cases x using AV.casesOn with
 | ref k=>exact oG e (EZ k) λc e=>Ij hm e
 | int i=>exact rW e rfl λe=>FS e λe=>jx e rfl
 | str s=>exact LO e
 | _=>exact dz e
def CN{f:Nat}(e:lY P h x f v=some h'):lY P (G H h) (sh H.length x) f (sh H.length v)=some (G H h'):=by
 refine G2 e λk e=>oG e (EZ k) λc e=>?_
 cases c using Cell.casesOn with
 | n c fs=>
  refine rW e (congrArg (λn=>wQ P c f && cf n 20) (aK _)) λe=>?_
  erw [<- ae e,A7]
  exact congrArg some (J4 k (.n c (oH f v fs)))
 | _=>exact dz e
def Fa{it:It}(e:gA h x=some it):gA (G H h) (sh H.length x)=some (Jj H.length it):=by
 cases x using AV.casesOn with
 | str s=>(replace e:=ae e;subst e);rfl
 | U vs=>(replace e:=ae e;subst e);rfl
 | a vs=>(replace e:=ae e;subst e);rfl
 | rng a b c=>exact kA e λq e=>by(replace e:=ae e;subst e);show eU (cw a b c) _=_;erw [q];rfl
 | ref k=>exact ke e λvs h1 e=>by subst e;exact mo (Gf h1)
 | _=>exact dz e
def E8(it:It):(Jj H.length it).next (G H h)=(it.next h).map λo=>o.map λp=>(sh H.length p.1,Jj H.length p.2):=by
 cases it using It.casesOn with
 | str s=>induction s using au <;> rfl
 | enum i s=>induction s using au <;> rfl
 | vals vs=>induction vs using au <;> rfl
 | rng a b n=>induction n using bL <;> rfl
 | cell k i=>
  show(aD (G H h) (k+H.length)).map _=((aD h k).map _).map _
  erw [fX]
  cases aD h k with
  | none=>rfl
  | some vs=>
   show some (((shs H.length vs)[i]?).map _)=some (((vs[i]?).map _).map _)
   erw [A3]
   cases vs[i]? <;> rfl
def GX:(jR n ls).length=ls.length:=aK _
def A6(i:Nat):(jR n ls)[i]? =(ls[i]?).map λo=>o.map (sh n):=eu
def Aj{i:Nat}(e:jg ls i v=some ls'):jg (jR n ls) i (sh n v)=some (jR n ls'):=by
 unfold jg at e |-
 erw [GX]
 cases hb:cf i ls.length with
 | false=>rw[hb]at e;exact dz e
 | true=>
  rw[hb]at e
  (replace e:=ae e;subst e)
  show some ((jR n ls).set i (some (sh n v)))=some (jR n (ls.set i (some v)));unfold jR
  erw [List.map_set];rfl
def wm:∀(is:List Nat) {vs:List AV} {ls:Ls},fo ls is vs=some ls'->fo (jR n ls) is (shs n vs)=some (jR n ls')
 | [],[],ls,e=>by(replace e:=ae e;subst e);rfl
 | [],_::_,ls,e=>dz e
 | _::_,[],ls,e=>dz e
 | i::is,v::vs,ls,e=>cJ e λl h1 e=>bo (Aj h1) (wm is e)
def Fc(e:jc h ls t v=some ls'):jc (G H h) (jR H.length ls) t (sh H.length v)=some (jR H.length ls'):=by
 cases t using PT.casesOn with
 | one i=>exact Aj e
 | many is=>cases v using AV.casesOn with
  | U vs=>exact wm is e
  | ref k=>exact cJ e λvs h1 e=>bo (Gf h1) (wm is e)
  | _=>exact dz e
def Ih:eV (jR n ls) t=eV ls t:=by
 unfold eV;congr 1;funext i
 erw [A6]
 cases ls[i]? with
 | none=>rfl
 | some o=>induction o using bb <;> rfl
end
end
mutual
abbrev Qh:BI->Bool
 | .list=>false
 | .tuple=>false
 | .range=>false
 | .chr=>false
 | .ord=>false
 | .int=>false
 | .str=>false
 | _=>true
abbrev R7:E->Bool
 | .lit v=>(mV v).isSome
 | .bi b _=>Qh b
 | .meth _ m _=> !(aW m 2)
 | .dict0=>false
 | .esc _ _ _ _ _ _=>false
 | .dget _ _ _=>false
 | .h _ _=>false
 | _=>true
abbrev R6:T->Bool
 | .idx _ _=>false
 | _=>true
abbrev Nr(r:Ev):Ev where
 e:=λd ls H c=>eU (R7 c) (dO P r d ls H c)
 es:=oD r
 t:=mK r
 s:=pn r
 ss:=oC r
 asg:=λd ls H t v=>eU (R6 t) (sE P r d ls H t v)
 asgs:=oE r
 call:=λd H f args=>eU (match P.fns[f]? with | some F=>F.dfl.all λv=>(mV v).isSome | none=>false) (iE P r d H f args)
 for_:=mz r
 comp:=kF r
abbrev pv:Nat->Ev
 | 0=> .bot
 | n+1=>Nr (pv n)
structure Fr(H:Hp)(D:Nat)(r:Ev):Prop where
 e:∀{d ls h c v h'},r.e d ls h c=some (v,h')->Re (d+D) (jR H.length ls) (G H h) c (sh H.length v,G H h')
 es:∀{d ls h c v h'},r.es d ls h c=some (v,h')->vl (d+D) (jR H.length ls) (G H h) c (shs H.length v,G H h')
 t:∀{d ls h c v h'},r.t d ls h c=some (v,h')->Rt (d+D) (jR H.length ls) (G H h) c (v,G H h')
 s:∀{d ls h c f ls' h'},r.s d ls h c=some (f,ls',h')->Rs (d+D) (jR H.length ls) (G H h) c (Jk H.length f,jR H.length ls',G H h')
 ss:∀{d ls h c f ls' h'},r.ss d ls h c=some (f,ls',h')->gH (d+D) (jR H.length ls) (G H h) c (Jk H.length f,jR H.length ls',G H h')
 asg:∀{d ls h c v ls' h'},r.asg d ls h c v=some (ls',h')->wH (d+D) (jR H.length ls) (G H h) c (sh H.length v) (jR H.length ls',G H h')
 asgs:∀{d ls h c v ls' h'},r.asgs d ls h c v=some (ls',h')->vm (d+D) (jR H.length ls) (G H h) c (shs H.length v) (jR H.length ls',G H h')
 call:∀{d h f as v h'},r.call d h f as=some (v,h')->aP (d+D) (G H h) f (shs H.length as) (sh H.length v,G H h')
 for_:∀{d ls h it t b f ls' h'},r.for_ d ls h it t b=some (f,ls',h')->lL (d+D) (jR H.length ls) (G H h) (Jj H.length it) t b (Jk H.length f,jR H.length ls',G H h')
 comp:∀{d ls h it t c x k h'},r.comp d ls h it t c x k=some h'->lM (d+D) (jR H.length ls) (G H h) (Jj H.length it) t c x (k+H.length) (G H h')
end
section
mutual
variable{it:It}{t:PT}{us:List AV}{h1:Hp}{en:Bool}{f:Nat}
variable{H h h' i7:Hp}{x y z v:AV}{q:Bool}{args vs:List AV}{s:List Nat}{m d D:Nat}{ls ls':Ls}{r:Ev}{a b c:E}
def JJ(I:Fr H D r){o:Option E}{ov:Option AV}(e:MT (r.e d ls h) h o=some (ov,h')):MT (R.e (d+D) (jR H.length ls) (G H h)) (G H h) o=some (ov.map (sh H.length),G H h'):=by
 cases o using bb with
 | none=>exact jx (s:=qY (sh H.length)) e rfl
 | some x=>exact mG e I.e λp h1 e=>iV (s:=qY (sh H.length)) e rfl
end
section
mutual
variable{α α':Type}
variable{β β':Type}{w:β}{w':β'}{q:Bool}
def sG{x:Option α}{x':Option α'}{f:α->Option β}{f':α'->Option β'}{s:α->α'}(e:x.bind f=some w)(h1:∀{a},x=some a->x'=some (s a))(h2:∀a,f a=some w->f' (s a)=some w'):x'.bind f'=some w':=
 cJ e λa q e=>by erw [h1 q];exact h2 a e
def sM{x:Option α}{x':Option α'}{f:α->β}{f':α'->β'}{s:α->α'}(e:x.map f=some w)(h1:∀{a},x=some a->x'=some (s a))(h2:∀a,f a=w->f' (s a)=w'):x'.map f'=some w':=
 ke e λa q e=>by erw [h1 q];exact congrArg some (h2 a e)
end
end
mutual
def LF{i:Nat}(e:(match ls[i]? with | some (some v)=>some (v,h) | _=>none)=some (v,h')):(match (jR H.length ls)[i]? with | some (some v)=>some (v,G H h) | _=>none)=some (sh H.length v,G H h'):=by
 erw [A6]
 generalize ls[i]? =o at e |-
 cases o using bb with
 | none=>exact dz e
 | some o=>cases o using bb with
  | none=>exact dz e
  | some u=>exact jx e rfl
def LG(I:Fr H D r){c:Nat}(e:((P.clss[c]?).bind λC=>(r.call d (h1++ [.n c []]) C.init (.ref h1.length::us)).bind fun(x,H')=>eU (mD x) (some (AV.ref h1.length,H')))=some (v,h')):
  ((P.clss[c]?).bind λC=>(R.call (d+D) (G H h1++ [.n c []]) C.init (.ref (G H h1).length::shs H.length us)).bind fun(x,H')=>eU (mD x) (some (AV.ref (G H h1).length,H')))=some (sh H.length v,G H h'):=by
 refine eG e rfl λC e=>bG (s:=sh H.length) e (fun{a h2} hx=>?_) λx h2 e=>rW e ?_ λe=>jx e (congrArg AV.ref y3)
 ·have e':=I.call hx;rw[<- Gg]at e'
  erw [y3]
  exact e'
 ·induction x using AV.casesOn <;> rfl
def HX(I:Fr H D r){m:Nat}{as:List E}(ok:(!(aW m 2))=true)(e:(match kO P h1 x m with | some f=>(r.es d ls h1 as).bind fun(vs,H)=>r.call d H f (x::vs) | none=>eU (j9 h1 x m) ((r.es d ls h1 as).bind fun(vs,H)=>kM x m vs H))=some (v,h')):
  (match kO P (G H h1) (sh H.length x) m with | some f=>(R.es (d+D) (jR H.length ls) (G H h1) as).bind fun(vs,H')=>R.call (d+D) H' f (sh H.length x::vs) | none=>eU (j9 (G H h1) (sh H.length x) m) ((R.es (d+D) (jR H.length ls) (G H h1) as).bind fun(vs,H')=>kM (sh H.length x) m vs H'))=some (sh H.length v,G H h'):=by
 erw [E9]
 generalize kO P h1 x m=o at e |-
 cases o using bb with
 | some f=>exact bG e I.es λus h2 e=>I.call e
 | none=>exact rW e Oz λe=>bG e I.es λus h2 e=>BD (by cases hq:aW m 2 with | false=>rfl | true=>rw[hq]at ok;exact ll ok) e
def Oy{u:AV}(e:sF en h u=some it):sF en (G H h) (sh H.length u)=some (Jj H.length it):=by
 cases en using aE with
 | false=>exact Fa e
 | true=>cases u using AV.casesOn with
  | str s=>exact ae e ▸rfl
  | _=>exact dz e
def Oq(I:Fr H D r){x src:E}{c:Option E}(e:(match eV ls t with | false=>none | true=>(r.e d ls h src).bind fun(J7,H)=>(sF en H J7).bind λit=>(r.comp d ls (H++ [.list []]) it t c x H.length).map λH'=>(AV.ref H.length,H'))=some (v,h')):
  (match eV (jR H.length ls) t with | false=>none | true=>(R.e (d+D) (jR H.length ls) (G H h) src).bind fun(J7,H')=>(sF en H' J7).bind λit=>(R.comp (d+D) (jR H.length ls) (H'++ [.list []]) it t c x H'.length).map λH''=>(AV.ref H'.length,H''))=some (sh H.length v,G H h'):=by
 erw [Ih]
 generalize eV ls t=q at e |-
 cases q using aE with
 | false=>exact dz e
 | true=>
  refine bG e I.e λu h1 e=>sG e Oy λit e=>sM (s:=G H) e (fun{h2} e=>?_) λh2 e=>iV e (congrArg AV.ref y3);have g:=I.comp e;rw[<- Gg]at g
  erw [y3]
  exact g
def QU(I:Fr H D r)(e:eU (R7 c) (dO P r d ls h c)=some (v,h')):Re (d+D) (jR H.length ls) (G H h) c (sh H.length v,G H h'):=by
 refine kA e λok e=>o8.trans ?_
 cases c using E.casesOn with
 | fail=>exact dz e
 | lit u=>exact jx e (zi u ok).symm
 | v i=>exact LF (ls:=ls) (h:=h) (i:=i) e
 | list es=>exact bG e I.es λus h1 e=>rW e (congrArg cF (fO us)) λe=>wC e rfl
 | U es=>exact bG e I.es λus h1 e=>rW e (congrArg cF (fO us)) λe=>jx e rfl
 | dict0=>exact ll ok
 | o o a b=>exact bG e I.e λx h1 e=>bG e I.e λy h2 e=>OF e
 | neg a=>exact bG e I.e λx h1 e=>tq e λi e=>jx e rfl
 | not a=>exact bG e I.e λx h1 e=>eM e rZ λw e=>iV e rfl
 | j o a b=>exact bG e I.e λx h1 e=>bG e I.e λy h2 e=>eM e Fb λw e=>iV e rfl
 | chain a o b o' c=>
  exact bG e I.e λx h1 e=>bG e I.e λy h2 e=>eG e Fb λw e=>by
   cases w using aE with
   | false=>exact jx e rfl
   | true=>exact bG e I.e λz h3 e=>eM e Fb λu e=>iV e rfl
 | and a b=>
  exact bG e I.e λx h1 e=>eG e rZ λw e=>by
   cases w using aE with
   | false=>exact jx e rfl
   | true=>exact I.e e
 | or a b=>
  exact bG e I.e λx h1 e=>eG e rZ λw e=>by
   cases w using aE with
   | false=>exact I.e e
   | true=>exact jx e rfl
 | ife c a b=>
  exact bG (s:=id) e I.t λw h1 e=>by
   cases w using aE with
   | false=>exact I.e e
   | true=>exact I.e e
 | aT a f=>exact bG e I.e λx h1 e=>oM e LQ λw e=>iV e rfl
 | idx a b=>exact bG e I.e λx h1 e=>bG e I.e λy h2 e=>oM e OD λw e=>iV e rfl
 | slice a lo hi=>exact bG e I.e λx h1 e=>bG e (JJ I) λl h2 e=>bG e (JJ I) λu h3 e=>Ig e
 | call f as=>exact bG e I.es λus h1 e=>I.call e
 | new c as=>exact bG e I.es λus h1 e=>LG I e
 | bi b as=>exact bG e I.es λus h1 e=>QY (by induction b using BI.casesOn <;> first | rfl | exact ok) e
 | h a k=>exact ll ok
 | meth a m as=>exact bG e I.e λx h1 e=>HX I ok e
 | esc p x y1 z1 y2 z2=>exact ll ok
 | joinrev a b=>exact bG e I.e λx h1 e=>bG e I.e λy h2 e=>vy e λs e=>G2 e λk e=>oG e fX λus e=>oM e ((congrArg (j2 s) (by erw [iQ,iQ,jj];rfl)).trans xV) λw e=>iV e rfl
 | dget t a b=>exact ll ok
 | comp x t src en c=>exact Oq I e
def Oo(I:Fr H D r){c:List E}(e:oD r d ls h c=some (vs,h')):vl (d+D) (jR H.length ls) (G H h) c (shs H.length vs,G H h'):=by
 refine MM.trans ?_
 cases c using au with
 | nil=>exact jx e rfl
 | cons a as=>exact bG e I.e λx h1 e=>mG e I.es λus h2 e=>iV e rfl
def QS(I:Fr H D r)(e:mK r d ls h c=some (q,h')):Rt (d+D) (jR H.length ls) (G H h) c (q,G H h'):=by
 refine MK.trans ?_
 cases c using E.casesOn with
 | not a=>exact mG (s:=id) e I.t λw h1 e=>iV (s:=id) e rfl
 | and a b=>
  exact bG (s:=id) e I.t λw h1 e=>by
   cases w using aE with
   | false=>exact jx (s:=id) e rfl
   | true=>exact I.t e
 | or a b=>
  exact bG (s:=id) e I.t λw h1 e=>by
   cases w using aE with
   | false=>exact I.t e
   | true=>exact jx (s:=id) e rfl
 | ife c a b=>
  exact bG (s:=id) e I.t λw h1 e=>by
   cases w using aE with
   | false=>exact I.t e
   | true=>exact I.t e
 | _=>exact bG e I.e λx h1 e=>eM e rZ λw e=>iV (s:=id) e rfl
def LJ(I:Fr H D r){t:T}(e:eU (R6 t) (sE P r d ls h t v)=some (ls',h')):wH (d+D) (jR H.length ls) (G H h) t (sh H.length v) (jR H.length ls',G H h'):=by
 refine kA e λok e=>yR.trans ?_
 cases t using T.casesOn with
 | v i=>exact sM e Aj λl e=>iV e rfl
 | aT a f=>exact bG e I.e λx h1 e=>sM e CN λu e=>iV e rfl
 | idx a b=>exact ll ok
 | U ts=>cases v using AV.casesOn with
  | U us=>exact I.asgs e
  | _=>exact dz e
def H0(I:Fr H D r){ts:List T}(e:oE r d ls h ts us=some (ls',h')):vm (d+D) (jR H.length ls) (G H h) ts (shs H.length us) (jR H.length ls',G H h'):=by
 refine AH.trans ?_
 induction ts using au <;> induction us using au
 ·exact jx e rfl
 ·exact dz e
 ·exact dz e
 ·exact bG e I.asg λl h1 e=>I.asgs e
def CJ{f HW:Fl}{f':Fl}(e:(HW,ls,h)=(f,ls',h'))(q:f'=Jk H.length HW):(f',jR H.length ls,G H h)=(Jk H.length f,jR H.length ls',G H h'):=by
 have e1:=aH e;have e2:=aH e1.2
 erw [q,e1.1,e2.1,e2.2];rfl
def QT(I:Fr H D r){c:S}{f:Fl}(e:pn r d ls h c=some (f,ls',h')):Rs (d+D) (jR H.length ls) (G H h) c (Jk H.length f,jR H.length ls',G H h'):=by
 refine C9.trans ?_
 cases c using S.casesOn with
 | fail=>exact dz e
 | expr a=>exact mG e I.e λp h1 e=>CJ e rfl
 | ret a=>exact mG e I.e λp h1 e=>CJ e rfl
 | retn=>exact congrArg some (CJ (ae e) rfl)
 | aS t a=>exact bG e I.e λx h1 e=>mG e I.asg λp h2 e=>CJ e rfl
 | ite c a b=>
  exact bG (s:=id) e I.t λw h1 e=>by
   cases w using aE with
   | false=>exact I.ss e
   | true=>exact I.ss e
 | «while» c b=>
  refine bG (s:=id) e I.t λw h1 e=>?_
  cases w using aE with
  | false=>exact congrArg some (CJ (ae e) rfl)
  | true=>
   refine RP e I.ss λf1 l h2 e=>?_
   cases f1 using Fl.casesOn with
   | ret u=>exact congrArg some (CJ (ae e) rfl)
   | next=>exact I.s e
   | cont=>exact I.s e
 | «for» t a b=>
  refine bG e I.e λx h1 e=>?_;have e':(match gA h1 x with | some it=>r.for_ d ls h1 it t b | none=>none)=some (f,ls',h'):=e;show(match gA (G H h1) (sh H.length x)with | some it=>R.for_ (d+D) (jR H.length ls) (G H h1) it t b | none=>none)=_;cases hi:gA h1 x with
  | none=>rw[hi]at e';exact dz e'
  | some it=>
   rw[hi]at e'
   erw [Fa hi]
   exact I.for_ e'
 | pass=>exact congrArg some (CJ (ae e) rfl)
 | cont=>exact congrArg some (CJ (ae e) rfl)
 | try_ b=>exact I.ss e
def On(I:Fr H D r){f:Fl}{c:List S}(e:oC r d ls h c=some (f,ls',h')):gH (d+D) (jR H.length ls) (G H h) c (Jk H.length f,jR H.length ls',G H h'):=by
 refine Gc.trans ?_
 cases c using au with
 | nil=>exact congrArg some (CJ (ae e) rfl)
 | cons s ss=>
  refine RP e I.s λf1 l h1 e=>?_
  cases f1 using Fl.casesOn with
  | next=>exact I.ss e
  | cont=>exact congrArg some (CJ (ae e) rfl)
  | ret u=>exact congrArg some (CJ (ae e) rfl)
def LH(I:Fr H D r){f:Fl}{b:List S}(e:mz r d ls h it t b=some (f,ls',h')):lL (d+D) (jR H.length ls) (G H h) (Jj H.length it) t b (Jk H.length f,jR H.length ls',G H h'):=by
 refine BY.trans (oG e (E8 it) λo e=>?_)
 cases o using bb with
 | none=>exact congrArg some (CJ (ae e) rfl)
 | some p=>
  exact sG e Fc λl e=>RP e I.ss λf1 l2 h1 e=>by
   cases f1 using Fl.casesOn with
   | ret u=>exact congrArg some (CJ (ae e) rfl)
   | next=>exact I.for_ e
   | cont=>exact I.for_ e
def HY(I:Fr H D r){co:Option E}{x:E}{k:Nat}(e:kF r d ls h it t co x k=some h'):lM (d+D) (jR H.length ls) (G H h) (Jj H.length it) t co x (k+H.length) (G H h'):=by
 refine t4.trans (oG e (E8 it) λo e=>?_)
 cases o using bb with
 | none=>exact congrArg (λz=>some (G H z)) (ae e)
 | some p=>
  refine sG e Fc λl e=>(bG (s:=id) e (fun{a h1} e=>?_) λw h1 e=>by
   cases w using aE with
   | false=>exact I.comp e
   | true=>exact bG e I.e λy h2 e=>bG e (BD (x:= .ref k) (args:= [y]) rfl) λz h3 e=>I.comp e)
  cases co using bb with
  | none=>exact jx (s:=id) e rfl
  | some c=>exact I.t e
def HZ(I:Fr H D r)(e:eU (match P.fns[f]? with | some F=>F.dfl.all λv=>(mV v).isSome | none=>false) (iE P r d h f args)=some (v,h')):aP (d+D) (G H h) f (shs H.length args) (sh H.length v,G H h'):=by
 refine kA e λok e=>?_
 cases d using bL with
 | zero=>exact dz e
 | succ d=>
  have e':(match P.fns[f]? with
   | some F=>
    match (args++F.dfl.drop (F.dfl.length-(F.np-args.length))).length==F.np with
    | true=>(r.ss d ((args++F.dfl.drop (F.dfl.length-(F.np-args.length))).map some++cC (F.nl-F.np) none) h F.body).bind fun(fl,zz,H)=>match fl with
     | .ret v=>some (v,H)
     | .next=>some (.none,H)
     | .cont=>none
    | false=>none
   | none=>none)=some (v,h'):=(by
    show _=_
    erw [<- e]
    show _=(match (Nat.succ d),P.fns[f]? with | d+1,some F=>_ | _,_=>none)
    cases P.fns[f]? <;> rfl)
  cases hF:P.fns[f]? with
  | none=>rw[hF]at e';exact dz e'
  | some F=>
   rw[hF]at e' ok;have e2:(match (args++F.dfl.drop (F.dfl.length-(F.np-args.length))).length==F.np with
    | true=>(r.ss d ((args++F.dfl.drop (F.dfl.length-(F.np-args.length))).map some++cC (F.nl-F.np) none) h F.body).bind fun(fl,zz,H)=>match fl with
     | .ret v=>some (v,H)
     | .next=>some (.none,H)
     | .cont=>none
    | false=>none)=some (v,h'):=e'
   have hd:shs H.length args++F.dfl.drop (F.dfl.length-(F.np-(shs H.length args).length))=shs H.length (args++F.dfl.drop (F.dfl.length-(F.np-args.length))):=by
    erw [vH,fO]
    congr 1
    erw [iQ]
    refine(List.map_id' _).symm.trans (List.map_congr_left λu hu=>(zi u (aS.mp ok u (List.mem_of_mem_drop hu))).symm)
   cases hl:(args++F.dfl.drop (F.dfl.length-(F.np-args.length))).length==F.np with
   | false=>rw[hl]at e2;exact dz e2
   | true=>
    rw[hl]at e2
    erw [Nat.succ_add]
    refine(Ay hF hd (by erw [fO];exact hl)).trans (cD e2 λfl p hb e=>?_);have hb':=I.ss hb;have lo:jR H.length ((args++F.dfl.drop (F.dfl.length-(F.np-args.length))).map some++cC (F.nl-F.np) none)=(shs H.length (args++F.dfl.drop (F.dfl.length-(F.np-args.length)))).map some++cC (F.nl-F.np) none:=by
     unfold jR
     erw [bp,iC,iQ,iC,List.map_replicate]
     rfl
    rw[lo]at hb';refine bo hb' ?_
    cases fl using Fl.casesOn with
    | ret u=>cases e;rfl
    | next=>cases e;rfl
    | cont=>exact dz e
def LI:Fr H D Ev.bot:=⟨λe=>dz e,λe=>dz e,λe=>dz e,λe=>dz e,λe=>dz e,λe=>dz e,λe=>dz e,λe=>dz e,λe=>dz e,λe=>dz e⟩
def JH:∀n,Fr H D (pv n)
 | 0=>LI
 | n+1=>have I:=JH n;⟨QU I,Oo I,QS I,QT I,On I,LJ I,H0 I,HZ I,LH I,HY I⟩
def FL{n:Nat}(e:(pv n).call d h f args=some (v,h')):aP (d+D) (G H h) f (shs H.length args) (sh H.length v,G H h'):=(JH n).call e
end
end
mutual
abbrev qS(s:List Nat):AV->Bool
 | .str t=>decide (t=s)
 | _=>false
abbrev qJ(a:Int):AV->Bool
 | .int i=>decide (i=a)
 | _=>false
abbrev q2(p q:AV->Bool):List AV->Bool
 | [x,y]=>p x && q y
 | _=>false
abbrev qT(p q:AV->Bool):AV->Bool
 | .U l=>q2 p q l
 | _=>false
def uG{s:List Nat}{v:AV}(h:qS s v=true):v= .str s:=by
 cases v using AV.casesOn with | str t=>erw [of_decide_eq_true h];rfl | _=>exact ll h
def Bb{a:Int}{v:AV}(h:qJ a v=true):v= .int a:=by
 cases v using AV.casesOn with | int t=>erw [of_decide_eq_true h];rfl | _=>exact ll h
def NF{p q:AV->Bool}{l:List AV}(h:q2 p q l=true):∃x y,l= [x,y]/\p x=true/\q y=true:=by
 rcases l with _ | ⟨x,_ | ⟨y,_ | ⟨z,l⟩⟩⟩
 ·exact ll h
 ·exact ll h
 ·exact kS x y rfl (ag.mp h)
 ·exact ll h
def Jn{p q:AV->Bool}{v:AV}(h:qT p q v=true):∃x y,v= .U [x,y]/\p x=true/\q y=true:=by
 cases v using AV.casesOn with
 | U t=>exact(NF h).elim λx h=>h.elim λy h=>(kS x y (congrArg AV.U h.1) h.2)
 | _=>exact ll h
abbrev KP(a b:Int):AV->Bool:=qT (qJ a) (qJ b)
abbrev R4(s:List Nat)(b:Int):AV->Bool:=qT (qS s) (qJ b)
def KO{a b:Int}{v:AV}(h:KP a b v=true):v= .U [.int a, .int b]:=
 (Jn h).elim λx h=>h.elim λy h=>by erw [h.1,Bb h.2.1,Bb h.2.2];rfl
def KN{s:List Nat}{b:Int}{v:AV}(h:R4 s b v=true):v= .U [.str s, .int b]:=
 (Jn h).elim λx h=>h.elim λy h=>by erw [h.1,uG h.2.1,Bb h.2.2];rfl
abbrev yF(d:Nat)(h:Hp)(f:Nat)(args:List AV)(p:AV->Bool):Bool:=match (pv 400).call d h f args with
 | some (v,_)=>p v
 | none=>false
end
section
mutual
variable{H h:Hp}{d D f:Nat}{args:List AV}{p:AV->Bool}
def EX(e:yF d h f args p=true):∃v h',p v=true/\aP (d+D) (G H h) f (shs H.length args) (sh H.length v,G H h'):=by
 unfold yF at e;cases h1:(pv 400).call d h f args with
 | none=>rw[h1]at e;exact nomatch e
 | some r=>rw[h1]at e;exact kS r.1 r.2 e (FL h1)
def lH(e:yF d [] f args p=true)(ha:(toPDs args).isSome=true):∃v H',p v=true/\aP (d+D) H f args (sh H.length v,H')/\Keep all H H':=by
 refine gy (EX (H:=H) (D:=D) e) λv h' hp e=>?_;rw[shs_lit args ha]at e;have:G H []=H:=bq H;rw[this]at e;exact i5 v _ hp e Keep.app
end
end
mutual
abbrev rl(m e:Int):List Cell:= [.n 16 [(30, .int m),(31, .int e)]]
def QR:yF 12 (rl 1 (-1)) 57 [.int 53, .ref 0] (KP 5 (-1))=true:=by decide+kernel
def QQ:yF 12 (rl 3 (-1)) 57 [.int 53, .ref 0] (KP 15 (-1))=true:=by decide+kernel
def QP:yF 12 (rl 5 (-2)) 57 [.int 53, .ref 0] (KP 125 (-2))=true:=by decide+kernel
def QO:yF 12 (rl 25 2) 57 [.int 53, .ref 0] (KP 1 2)=true:=by decide+kernel
def QN:yF 12 (rl 1 (-4)) 57 [.int 53, .ref 0] (KP 625 (-4))=true:=by decide+kernel
end
section
mutual
variable{H:Hp}{d k:Nat}
def FE{m m' e a b b':Int}{s t u sg:List Nat}(hk:Hk H k (.n 16 [(30, .int m),(31, .int e)]))(hm:(m.natAbs:Int)=m')(h0:decide (yK (decide (0<m))-yK (decide (m<0))=0)=false)(hs:(yK (decide (0<m))-yK (decide (m<0))<0/\sg= [45])\/(¬ yK (decide (0<m))-yK (decide (m<0))<0/\sg= []))
  (h57:yF 12 (rl m' e) 57 [.int 53, .ref 0] (KP a b)=true)(h46:yF 12 [] 46 [.int a, .int 10] (qS s)=true)(h58:yF 12 [] 58 [.str s, .int b] (R4 t b')=true)(h59:yF 12 [] 59 [.str t, .int b'] (qS u)=true)(hl:sg.length+u.length<=1000000):∃H',aP (d+15) H 60 [.int 53, .ref k] (.str (sg++u),H')/\Keep all H H':=by
 refine gy (EX (H:=H) (D:=d+2) h57) λv h1 p1 e1=>?_;cases KO p1
 refine dX (lH (H:=G H h1) (D:=d+2) h46 rfl) λv H2 p2 e2 K2=>?_;cases uG p2
 refine dX (lH (H:=H2) (D:=d+2) h58 rfl) λv H3 p3 e3 K3=>?_;cases KN p3
 refine dX (lH (H:=H3) (D:=d+2) h59 rfl) λv H4 p4 e4 K4=>?_;cases uG p4
 have K1:Keep all H (G H h1):=Keep.app;have K:Keep all H H3:=(K1.trans K2).trans K3;have dd:12+(d+2)=d+14:=by exact dn ..
 rw[dd]at e1 e2 e3 e4;have r1:aP (d+14) (H++ [.n 16 [(30, .int (m.natAbs:Int)),(31, .int e)]]) 57 [.int 53, .ref H.length] (.U [.int a, .int b],G H h1):=by
  erw [hm]
  have:(0+H.length)=H.length:=jh _
  have e1':aP (d+14) (G H (rl m' e)) 57 [.int 53, .ref (0+H.length)] (.U [.int a, .int b],G H h1):=e1
  rw[this]at e1'
  exact e1'
 have sg':∀{ls:Ls},ls[1]? =some (some (.ref k))->Re (d+14) ls H3 (.ife (.j .lt (.call 39 [(.v 1)]) (.lit (.int 0))) (.lit (.str [45])) (.lit (.str []))) (.str sg,H3):=λhl=>by
  have c:=Rv (d:=d+12) (K.at_ _ _ trivial hk)
  cases hs using cV with
  | inl h=>erw [h.2];exact eW (gN (bg (ak (ah hl) ao) c) az (dT h.1)) az
  | inr h=>erw [h.2];exact fz (gN (bg (ak (ah hl) ao) c) az (dF h.1)) az
 exact bH H4 (bx (F:=Q3) rfl rfl rfl (ie (gN (bg (bV rfl ao) (Rv (d:=d+12) hk)) az (congrArg some h0)) (lP (bg (bV rfl (ak (bg (ak (ah rfl) ao) (Un (d:=d+12) hk)) ao)) r1) (mm (di (eh rfl) (di (eh rfl) jB))) (lP (bg (ak (bg (ak (ah rfl) (ak az ao)) e2) (ak (ah rfl) ao)) e3) (mm (di (eh rfl) (di (eh rfl) jB))) (eP (kH (bS (sg' rfl) (bg (ak (ah rfl) (ak (ah rfl) ao)) e4) (d8 hl)))))))) (K.trans K4)
def D8:tY:=by
 intro d H k m e hk g;simp only[mY,aQ,lV,or_false,Prod.mk.injEq]at g;rcases g with⟨h,h'⟩ | ⟨h,h'⟩ | ⟨h,h'⟩ | ⟨h,h'⟩ | ⟨h,h'⟩ | ⟨h,h'⟩ <;> subst h <;> subst h'
 ·exact FE (s:= [53]) (t:= [53]) (sg:= []) (u:= [48,46,53]) (b':= -1) hk rfl rfl (.inr ⟨by decide,rfl⟩) QR (by decide+kernel) (by decide+kernel) (by decide+kernel) (by decide)
 ·exact FE (s:= [49,53]) (t:= [49,53]) (sg:= []) (u:= [49,46,53]) (b':= -1) hk rfl rfl (.inr ⟨by decide,rfl⟩) QQ (by decide+kernel) (by decide+kernel) (by decide+kernel) (by decide)
 ·exact FE (s:= [49,50,53]) (t:= [49,50,53]) (sg:= [45]) (u:= [49,46,50,53]) (b':= -2) hk rfl rfl (.inl ⟨by decide,rfl⟩) QP (by decide+kernel) (by decide+kernel) (by decide+kernel) (by decide)
 ·exact bH H (bx (F:=Q3) rfl rfl rfl (mu (gN (bg (bV rfl ao) (Rv (d:=d+12) hk)) az rfl) (fx az))) Keep.refl
 ·exact FE (s:= [49]) (t:= [49]) (sg:= []) (u:= [49,48,48,46,48]) (b':=2) hk rfl rfl (.inr ⟨by decide,rfl⟩) QO (by decide+kernel) (by decide+kernel) (by decide+kernel) (by decide)
 ·exact FE (s:= [54,50,53]) (t:= [54,50,53]) (sg:= []) (u:= [48,46,48,54,50,53]) (b':= -4) hk rfl rfl (.inr ⟨by decide,rfl⟩) QN (by decide+kernel) (by decide+kernel) (by decide+kernel) (by decide)
end
end
mutual
abbrev L6(d:Nat)(h:Hp)(f:Nat)(args:List AV)(p:AV->Hp->Bool):Bool:=match (pv 400).call d h f args with
 | some (v,h')=>p v h'
 | none=>false
abbrev qF(f:Nat)(a:Int)(p:Nat×AV):Bool:=decide (p.1=f) && qJ a p.2
abbrev R5(f g:Nat)(a b:Int):List (Nat×AV)->Bool
 | [x,y]=>qF f a x && qF g b y
 | _=>false
abbrev qC(c f g:Nat)(a b:Int):Cell->Bool
 | .n c' l=>decide (c'=c) && R5 f g a b l
 | _=>false
abbrev qO(c f g:Nat)(a b:Int)(v:AV)(h:Hp):Bool:=match v with
 | .ref k=>(h[k]?).any (qC c f g a b)
 | _=>false
def G3:(mY.all λr=>L6 12 [] 76 [.int 53, .str (fP r.1 r.2), .int 10] (qO 16 30 31 r.1 r.2))=true:=by decide+kernel
abbrev rq(c:Nat):Prop:=48<=c/\c<58
abbrev val(a:Nat):List Nat->Nat
 | []=>a
 | c::r=>val (a*10+(c-48)) r
noncomputable abbrev qR:List Nat:= [48,49,50,51,52,53,54,55,56,57,97,98,99,100,101,102]
noncomputable abbrev qU:List Nat:= [48,49,50,51,52,53,54,55,56,57]
def KU:∀c<58,48<=c->gf c qR=some (c-48):=by decide
def N8:∀c<58,48<=c->qU.contains c=true:=by decide
def fU{n:Nat}(h:n<10 ^ 40):fQ (n:Int)=true:=wj (al h (ab rfl))
end
section
mutual
variable{c a:Nat}{ds:List Nat}
variable{d:Nat}{H:Hp}
def ET(hc:rq c):uc qR 5 [.str [c]] H=some (.int ((c-48:Nat):Int),H):=by
 show(gf c qR).map (λi:Nat=>(AV.int (i:Int),H))=_
 erw [KU c hc.2 hc.1];rfl
def NR(h:a<10 ^ 30):nW .mul (.int a) (.int 10) H=some (.int ((a*10:Nat):Int),H):=by
 show(eU (fQ (a:Int) && fQ 10) (some ((a:Int)*10))).map _=_
 erw [fU (al h (cp (cH _) (ab rfl))),(show fQ 10=true from fU (n:=10) (al (show 10<10 ^ 2 from ab rfl) (cp (cH _) (ab rfl))))]
 rfl
def yy{X:Nat}(h:a<X)(hc:c<58):a*10+(c-48)<X*10:=al (Nat.add_lt_add_left (k7 (t5 (yV hc) 48)) _) (aj (iB (Nat.succ_mul a 10).symm) (Nat.mul_le_mul_right 10 h))
def r9{l0 l4 l5:Option AV}:∀(ds:List Nat) (a m:Nat) (x3:Option AV),(∀c∈ds,rq c)->a<10 ^ m->m+ds.length<=30->
  ∃x3',lL d [l0,some (.int 10),some (.int a),x3,l4,l5] H (.str ds) (.one 3) [(.aS (.v 2) (.o .add (.o .mul (.v 2) (.v 1)) (.meth (.lit (.str qR)) 5 [(.v 3)])))] (.next,[l0,some (.int 10),some (.int (val a ds)),x3',l4,l5],H)
 | [],a,m,x3,_,_,_=>⟨x3,iH rfl⟩
 | c::ds,a,m,x3,hd,ha,hm=>by
  have hc:=hd c bj;have h1:a*10+(c-48)<10 ^ (m+1):=by erw [Nat.pow_succ];exact yy ha hc.2
  obtain⟨x3',e⟩:=r9 ds (a*10+(c-48)) (m+1) (some (.str [c])) (λc h=>hd c (bN _ h)) h1 (by simp only[aI]at hm;exact(bE (aJ bf ay) (aG 30) [(aJ ai cN,aG 30)] aR hm));exact⟨x3',fq rfl rfl (cK (bS (bS (ah rfl) (ah rfl) (NR (al ha (cp (cH _) (aj (bu _ _) hm))))) (oR az rfl (bV rfl ao) (ET hc)) rfl) rfl ba) e⟩
def Ul(hd:∀c∈ds,rq c)(hl:ds.length<=20):aP (d+1) H 62 [.str ds, .int 10] (.int (val 0 ds),H):=by
 obtain⟨x3,e⟩:=r9 (d:=d) (H:=H) (l0:=some (.str ds)) (l4:=none) (l5:=none) ds 0 1 none hd (ab rfl) (by exact(cz (aJ (aG 1) ai) (aG 30) [(ai,aG 20)] aR hl));exact bx (F:=SG) rfl rfl rfl (cK az rfl (aB (mL (ah rfl) rfl e) (fx (ah rfl))))
def tL{g:Nat->AV}{a:E}{i:Nat}:∀(cs:List Nat) (us:List AV) (ls:Ls),(∀c∈cs,∀(ls':Ls) H,ls'.length=ls.length->(∀j,j≠i->ls'[j]? =ls[j]?)->ls'[i]? =some (some (.str [c]))->Re d ls' H a (g c,H))->cf i ls.length=true->us.length+cs.length<=1000000->
  lM d ls (H++ [.list us]) (.str cs) (.one i) none a H.length (H++ [.list (us++cs.map g)])
 | [],us,ls,_,_,_=>by erw [mS,bq];exact gn rfl
 | c::cs,us,ls,hb,hi,hu=>by
  have l1:(ls.set i (some (.str [c]))).length=ls.length:=iM;have o1:∀j,j≠i->(ls.set i (some (.str [c])))[j]? =ls[j]?:=λj h=>mr (Ne.symm h);have e:=tL cs (us++ [g c]) (ls.set i (some (.str [c]))) (λc' m ls' H h1 h2 h3=>hb c' (bN _ m) ls' H (h1.trans l1) (λj h=>(h2 j h).trans (o1 j h)) h3) (by erw [l1];exact hi) (by erw [af];exact(f6 _ 1 _).symm ▸(dn cs.length 1 ▸hu));refine iZ (v:= .str [c]) (it':= .str cs) rfl (bA:=ls.set i (some (.str [c]))) (by show jg ls i (.str [c])=_;unfold jg;erw [hi];rfl) (hb c bj _ _ l1 o1 (k8 (cL.mp hi))) aU (aM (aj (bu _ _) hu)) ?_
  erw [lC,e,aA]
  rfl
def qg:∀(cs:List Nat),lJ (cs.map λzz=>AV.bool true)=some (cs.map λzz=>true)
 | []=>rfl
 | c::r=>congrArg (λz=>z.map (true::·)) (qg r)
def GV:iw (.str qR) none (some (.int 10)) H=some (.str qU,H):=by show eU (cF 16) _=_;erw [aM (ab rfl)];rfl
def Uk(hd:∀c∈ds,rq c)(hl:ds.length<=1000000):aP (d+1) H 63 [.str ds, .int 10] (.bool true,H++ [.list (ds.map λzz=> .bool true)]):=by
 have e:=tL (d:=d) (H:=H) (g:=λzz=> .bool true) (a:=(.j .isin (.v 2) (.slice (.lit (.str qR)) none (some (.v 1))))) (i:=2) ds [] [some (.str ds),some (.int 10),none,none] (λc m ls H h1 h2 h3=>dw (ah h3) (kX az (ah ((h2 1 (by decide)).trans rfl)) GV) (by show some (qU.contains c)=_;erw [N8 c (hd c m).2 (hd c m).1];rfl)) rfl (by show 0+_<=_;exact(cz (aJ (aG 0) ai) cX [(ai,cX)] aR hl));refine bx (F:=SF) rfl rfl rfl (fx (eH (ak (kY rfl (ah rfl) rfl e) ao) ?_));show(aD _ H.length).bind _=_;refine bo (a:=ds.map λzz=> .bool true) ?_ ?_
 ·unfold aD;rewrite [fM];erw [aU];rfl
 ·show(lJ (ds.map λzz=>AV.bool true)).map _=_
  erw [qg]
  show some (AV.bool ((ds.map λzz=>true).all id),_)=_
  erw [(aS.mpr λb hb=>by refine aL (cM.mp hb) λzz zy e=>?_;exact e.symm)]
  rfl
end
end
mutual
def Dv:∀(ds:List Nat) (a m:Nat),(∀c∈ds,rq c)->a<10 ^ m->val a ds<10 ^ (m+ds.length)
 | [],a,m,_,h=>h
 | c::ds,a,m,hd,h=>by
  have hc:=(hd c bj).2;have:=Dv ds (a*10+(c-48)) (m+1) (λc m=>hd c (bN _ m)) (by erw [Nat.pow_succ];exact yy h hc)
  erw [aI,<- f6,gq]
  exact this
def LL:fQ 10=true:=fU (n:=10) (al (show 10<10 ^ 2 from ab rfl) (cp (cH _) (ab rfl)))
def E7:fQ 1=true:=fU (n:=1) (al (show 1<10 ^ 1 from ab rfl) (cp (cH _) (ab rfl)))
def OY{k:Nat}:∀{l:List Nat},(∀c∈l,c≠k)->l.dropWhile (aW k)=l
 | [],_=>rfl
 | c::r,h=>by
  rw[List.dropWhile_cons_of_neg];intro e;exact h c bj (aV e).symm
def An{k:Nat}{l:List Nat}(h:∀c∈l,c≠k):nP k l=l:=by
 unfold nP
 erw [(OY λc m=>h c (List.mem_reverse.mp m)),List.reverse_reverse];rfl
end
section
mutual
variable{ds:List Nat}{a b:AV}
variable{d:Nat}{H:Hp}
def Qm(hd:∀c∈ds,rq c):∀c∈ds,c≠35:=λc m e=>absurd (hd c m).1 (by erw [e];decide)
def Uj(h:∀c∈ds,c≠35)(hl:ds.length<=1000000):aP (d+1) H 64 [.str ds] (.U [.str ds, .int 0],H):=by
 have e:uc ds 9 [.str [35]] H=some (.str ds,H):=by
  show eU (cF ds.length) (some (AV.str (nP 35 ds),H))=_
  erw [aM hl,An h];rfl
 exact bx (F:=SE) rfl rfl rfl (cK (oR (ah rfl) rfl (gR ao) e) rfl (fx (gQ (bV rfl (ak (bS (eH (ak (ah rfl) ao) (len_str hl)) (eH (ak (ah rfl) ao) (len_str hl)) (by show some (AV.int ((ds.length:Int)-ds.length),H)=some (.int 0,H);erw [Int.sub_self];rfl)) ao)) (aM (ab rfl)))))
def S9{c:AV}:aP (d+1) (H++ [.n 19 []]) 65 [.ref H.length,a,b,c] (.none,H++ [.n 19 [(32,a),(33,b),(38,c)]]):=fB (F:=SD) rfl rfl rfl (aB (dS rfl (ah rfl) rfl rfl) (aB (dS rfl (ah rfl) rfl rfl) (aB (dS rfl (ah rfl) rfl rfl) ba)))
def Te:aP (d+1) (H++ [.n 17 []]) 42 [.ref H.length,a,b] (.none,H++ [.n 17 [(32,a),(33,b)]]):=fB (F:=SJ) rfl rfl rfl (aB (dS rfl (ah rfl) rfl rfl) (aB (dS rfl (ah rfl) rfl rfl) ba))
def Rn(hd:∀c∈ds,rq c)(hn:ds≠ [])(hl:ds.length<=20):∃k H',aP (d+2) H 66 [.str ds, .int 10] (.ref k,H')/\Hk H' k (.n 19 [(32, .int (val 0 ds)),(33, .int 1),(38, .bool true)])/\Keep all H H':=by
 have hl':ds.length<=1000000:=aj hl (ab rfl);have pw:∀H,nW .pow (.int 10) (.int 0) H=some (.int 1,H):=λH=>by
  show(eU (fQ 10 && true) (some (HM 10 0))).map _=_
  erw [LL];rfl
 have ml:∀H,nW .mul (.int (val 0 ds)) (.int 1) H=some (.int (val 0 ds),H):=λH=>by
  show(eU (fQ (val 0 ds:Int) && fQ 1) (some ((val 0 ds:Int)*1))).map _=_
  erw [E7,(fU (al (Dv ds 0 0 hd (ab rfl)) (cp (cH _) (by exact(cz (aJ (aG 0) ai) (aG 40) [(ai,aG 20)] aR hl))))),Int.mul_one];rfl
 refine i5 _ _ (bx (F:=SA) rfl rfl rfl (lP (bg (bV rfl ao) (Uj (Qm hd) hl')) (mm (di (eh rfl) (di (eh rfl) jB))) (ie (iP (cS rfl (dF hn)) (uy (mv (ak (ah rfl) (ak (ah rfl) ao)) (Uk hd hl')))) (fx (gG (C:=_) (ak (bS (bg (ak (ah rfl) (ak (ah rfl) ao)) (Ul hd hl)) (bS (ah rfl) (ah rfl) (pw _)) (ml _)) (ak az (ak (dw (ah rfl) az rfl) ao))) rfl S9))))) aU (Keep.app.trans Keep.app)
end
end
section
mutual
variable{q i:Int}
variable{d:Nat}{H:Hp}
def Hv{a b:Nat}:ES .mod (a:Int) ((b+1:Nat):Int)=some ((a % (b+1):Nat):Int):=by
 show eU (!decide (((b+1:Nat):Int)=0)) (some (gr a ((b+1:Nat):Int)))=_
 erw [decide_eq_false (mO.mpr (AJ b)),Int.fmod_eq_emod_of_nonneg _ (fE _)]
 rfl
def ym{l2 l3:Option AV}:∀(n b a:Nat),b<n->Rs d [some (.int a),some (.int b),l2,l3] H (.while (.j .ne (.v 1) (.lit (.int 0))) [(.aS (.U [(.v 0),(.v 1)]) (.U [(.v 1),(.o .mod (.v 0) (.v 1))]))]) (.next,[some (.int (yW b a)),some (.int 0),l2,l3],H)
 | 0,_,_,h=>absurd h (Nat.not_lt_zero _)
 | n+1,0,a,_=>by erw [Nat.gcd_zero_left];exact eR (cS rfl rfl)
 | n+1,b+1,a,h=>by
  have e:=ym (l2:=l2) (l3:=l3) n (a % (b+1)) (b+1) (al (Nat.mod_lt _ (k6 b)) (yV h));rw[<- Nat.gcd_rec]at e;refine eQ (cS rfl (nT (mO.mpr (AJ b)))) (lP (gQ (bV rfl (ak (bS (ah rfl) (ah rfl) ?_) ao)) (aM (ab rfl))) (mm (di (eh rfl) (di (eh rfl) jB))) ba) e;exact congrArg (qY λk=>(AV.int k,H)) (Hv (a:=a) (b:=b))
def Ta{p:Int}:aP (d+1) H 43 [.int p, .int q] (.int (yW q.natAbs p.natAbs),H):=
 bx (F:=SI) rfl rfl rfl (lP (gQ (ak (eH (bV rfl ao) rfl) (ak (eH (bV rfl ao) rfl) ao)) (aM (ab rfl))) (mm (di (eh rfl) (di (eh rfl) jB))) (aB (ym _ _ _ (cI _)) (fx (ah rfl))))
def Iy:nW .fdiv (.int i) (.int 1) H=some (.int i,H):=by
 show(eU (!decide ((1:Int)=0) && fQ 1) (some (lh i 1))).map _=_
 erw [E7,Int.fdiv_one];rfl
def O7:aP (d+3) H 45 [.int i, .int 1] (.int i,H):=by
 have g:aP (d+2) H 43 [.int i, .int 1] (.int 1,H):=by show(_:Option (AV×Hp))=_;erw [Ta,(show(1:Int).natAbs=1 from rfl),Nat.gcd_one_left];rfl
 exact bx (F:=Q6) rfl rfl rfl (ie (cS rfl rfl) (cK (bg (bV rfl (ak (ah rfl) ao)) g) rfl (fx (bg (ak (bS (ah rfl) (ah rfl) Iy) (ak (bS (ah rfl) (ah rfl) Iy) ao)) (bx (F:=Q7) rfl rfl rfl (eP (kH (eW (gE rfl (dw (ah rfl) az rfl)) (ah rfl)))))))))
def Ru{p:Int}(h2:2<=q)(hg:yW q.natAbs p.natAbs=1):aP (d+3) H 45 [.int p, .int q] (.ref H.length,H++ [.n 17 [(32, .int p),(33, .int q)]]):=by
 have g:aP (d+2) H 43 [.int p, .int q] (.int 1,H):=by show(_:Option (AV×Hp))=_;erw [Ta,hg];rfl
 exact bx (F:=Q6) rfl rfl rfl (ie (cS rfl (dF (by exact(λzz=>(Dj [_] [] (.hz (.ik 2) (.iv 0) (.hz (.ip (.iv 0) (.ik 1)) (.ik 0) .ho)) aR h2 zz))))) (cK (bg (bV rfl (ak (ah rfl) ao)) g) rfl (fx (bg (ak (bS (ah rfl) (ah rfl) Iy) (ak (bS (ah rfl) (ah rfl) Iy) ao)) (bx (F:=Q7) rfl rfl rfl (eP (kH (fz (gE rfl (dw (ah rfl) az (dF (by exact(λzz=>(Dj [_] [] (.hz (.ik 2) (.iv 0) (.hz (.iv 0) (.ik 1) .ho)) aR h2 (wU zz))))))) (gG (ak (ah rfl) (ak (ah rfl) ao)) rfl Te)))))))))
end
end
section
mutual
variable{s:List Nat}{i j:Nat}
variable{d:Nat}{H:Hp}
def pA(hl:s.length<=1000000):iw (.str s) (some (.int i)) (some (.int j)) H=some (.str ((s.take j).drop i),H):=by show eU (cF s.length) _=_;erw [aM hl];rfl
def oF(hl:s.length<=1000000):iw (.str s) (some (.int i)) none H=some (.str (s.drop i),H):=by
 show eU (cF s.length) (some (AV.str ((s.take s.length).drop i),H))=_
 erw [aM hl,qm];rfl
def DR(hl:s.length<=1000000):iw (.str s) none (some (.int j)) H=some (.str (s.take j),H):=by show eU (cF s.length) _=_;erw [aM hl];rfl
def Ug{c:Nat}{r:List Nat}(hc:c≠35)(hl:(c::r).length<=1000000):aP (d+1) H 74 [.str (c::r), .int 10] (.U [.str (c::r), .int 10, .str []],H):=
 bx (F:=Sx) rfl rfl rfl (lP (gQ (gR (gR (ak az ao))) (aM (ab rfl))) (mm (di (eh rfl) (di (eh rfl) (di (eh rfl) jB)))) (aB (eR (gN (jy (ah rfl) (ah rfl) (bS (ah rfl) az rfl) (pA (i:=0) (j:=1) hl)) az (eq_str (mC hc)))) (fx (gQ (ak (oS (ah rfl) (ah rfl) (oF (i:=0) hl)) (bV rfl (ak (ah rfl) ao))) (aM (ab rfl))))))
def sJ{l0:Option AV}{us:List AV}{a:E}:∀(cs:List Nat) (j:Nat) (x2 x3:Option AV),(∀c∈cs,c<100)->lM d [l0,none,x2,x3] (H++ [.list us]) (.enum j cs) (.many [2,3]) (some (.j .isin (.v 3) (.lit (.str [101,115,102,100,108])))) a H.length (H++ [.list us])
 | [],_,_,_,_=>gn rfl
 | c::cs,j,x2,x3,h=>by
  have e:=sJ (a:=a) (us:=us) (l0:=l0) cs (j+1) (some (.int j)) (some (.str [c])) (λc m=>h c (bN _ m));have hc:=h c bj;have:([101,115,102,100,108]:List Nat).contains c=false:=by
   cases hb:([101,115,102,100,108]:List Nat).contains c with
   | false=>rfl
   | true=>
    have:=fu.mp hb
    simp only[aQ,lV,or_false]at this
    lia
  exact u0 (v:= .U [.int j, .str [c]]) (it':= .enum (j+1) cs) rfl rfl (cS rfl (by show some (List.contains _ c)=_;erw [this];rfl)) e
def Uh{cs:List Nat}(h:∀c∈cs,c<100)(hl:cs.length<=1000000):∃H',aP (d+1) H 70 [.str cs] (.int cs.length,H')/\Keep all H H':=by
 have e:=sJ (d:=d) (H:=H) (l0:=some (.str cs)) (us:= []) (a:= .v 2) cs 0 none none h;have ne:iI ((H++ [.list []])++ [.list []]) .ne (.ref H.length) (.ref (H++ [Cell.list []]).length)=some false:=by
  have:Gi ((H++ [.list []])++ [.list []]) (.ref H.length) (.ref (H++ [Cell.list []]).length)=some true:=by
   refine bo (a:= []) ?_ (bo (a:= []) ?_ rfl)
   ·unfold aD;erw [bC aU];rfl
   ·unfold aD;erw [aU];rfl
  exact mo this
 exact bH _ (bx (F:=Sy) rfl rfl rfl (cK (Iv rfl (ah rfl) e) rfl (fx (fz (gN (ah rfl) (fK ao (aM (aX _))) ne) (eH (bV rfl ao) (len_str hl)))))) (Keep.app.trans Keep.app)
end
end
mutual
def jK:∀{n:Nat},n<=1000->(∀c∈bQ n,rq c)/\bQ n≠ []/\(bQ n).length<=4/\val 0 (bQ n)=n:=by
 intro n h;have t:((cR 1001).all λn=>(bQ n).all (λc=>dm 48 c && cf c 58) && (!(bQ n).isEmpty && (dm (bQ n).length 4 && aW (val 0 (bQ n)) n)))=true:=by decide+kernel
 have:=aS.mp t n (List.mem_range.mpr (k7 h));simp only[cv,aS]at this;refine Ad (λc m=>⟨ab (this.1 c m).1,cL.mp (this.1 c m).2⟩) (λe=>?_) (ab this.2.2.1) (aV this.2.2.2);rw[e]at this;exact absurd this.2.1 (by decide)
def Jt{ds:List Nat}{k:Nat}(hd:∀c∈ds,rq c)(hk:k<48):ds.contains k=false:=by
 cases hb:ds.contains k with
 | false=>rfl
 | true=>exact absurd (hd k (fu.mp hb)).1 (AK hk)
def xN:∀{s:List Nat},(∀c∈s,c<65)->xO s=some s
 | [],_=>rfl
 | c::r,h=>by
  have hc:=h c bj;show(match cf c 128 with | false=>none | true=>(xO r).map ((match dm 65 c && dm c 90 with | true=>c+32 | false=>c)::·))=_
  erw [cL.mpr (gJ hc (ab rfl)),(xN λc m=>h c (bN _ m)),(show dm 65 c=false from gM.mpr λe=>AK hc (ab e))]
  rfl
end
section
mutual
variable{d:Nat}{H:Hp}
def O5{ds:List Nat}(hd:∀c∈ds,rq c)(hn:ds≠ [])(hl:ds.length<=20):∃k H',aP (d+3) H 73 [.str ds, .int 10] (.ref k,H')/\Hk H' k (.n 19 [(32, .int (val 0 ds)),(33, .int 1),(38, .bool true)])/\Keep all H H':=by
 have hl':ds.length<=1000000:=aj hl (ab rfl);refine aL (Uh (d:=d+1) (H:=H) (cs:=ds) (λc m=>gJ (hd c m).2 (ab rfl)) hl') λH1 e1 K1=>?_;refine dX (Rn (d:=d) (H:=H1) hd hn hl) λk H2 e2 h2 K2=>?_;exact i5 k H2 (bx (F:=Q1) rfl rfl rfl (ie (gN az (ah rfl) (by show some (ds.contains 47)=_;erw [(Jt hd (by decide))];rfl)) (ie (mx (cS rfl rfl) (iP (gN az (ah rfl) (by show some (ds.contains 46)=_;erw [(Jt hd (by decide))];rfl)) (gN (bg (ak (ah rfl) ao) e1) (eH (ak (ah rfl) ao) (len_str hl')) (dF (o6 _))))) (fx (bg (ak (ah rfl) (ak (ah rfl) ao)) e2))))) h2 (K1.trans K2)
def PQ{p q:Int}{r:AV×Hp}(h:aP (d+3) H 45 [.int p, .int q] r):aP (d+4) H 75 [.int 53, .int p, .int q, .bool true] r:=
 bx (F:=Sw) rfl rfl rfl (mu (gE rfl (ah rfl)) (fx (bg (bV rfl (ak (ah rfl) ao)) h)))
def EU{c:Nat}{q:Bool}(h:(decide (([43]:List Nat)= [c]) || (decide (([45]:List Nat)= [c]) || false))=q):iI H .isin (.str [c]) (.U [.str [43], .str [45]])=some q:=congrArg some h
def Hu{a b:Int}(ha:fQ a=true)(hb:fQ b=true):nW .mul (.int a) (.int b) H=some (.int (a*b),H):=by
 show(eU (fQ a && fQ b) (some (a*b))).map _=_
 erw [ha,hb];rfl
end
end
section
mutual
variable{d:Nat}{H H':Hp}
def PP{c k:Nat}{w w':List Nat}{ng pm:Bool}{a b:Int}{r:AV×Hp}(hw:∀x∈c::w,x<65)(hc:c≠35)(hl:(c::w).length<=1000000)(hs:decide (([c]:List Nat)= [45])=ng)(hp:(decide (([43]:List Nat)= [c]) || (decide (([45]:List Nat)= [c]) || false))=pm)(hw':w'=cond pm w (c::w))
  (e73:aP (d+4) H 73 [.str w', .int 10] (.ref k,H'))(hk:Hk H' k (.n 19 [(32, .int a),(33, .int b),(38, .bool true)]))(hm:fQ a=true)(hm1:fQ (-1)=true)(e75:aP (d+4) H' 75 [.int 53, .int (cond ng (-1) 1*a), .int b, .bool true] r):aP (d+5) H 76 [.int 53, .str (c::w), .int 10] r:=by
 have lo:uc (c::w) 7 [] H=some (.str (c::w),H):=by
  show eU (cF (c::w).length) ((xO (c::w)).map λx=>(AV.str x,H))=_
  erw [aM hl,xN hw];rfl
 have tk:∀{H:Hp},iw (.str (c::w)) none (some (.int 1)) H=some (.str [c],H):=DR (j:=1) hl;have s4:∀{ls:Ls} {H:Hp},ls[4]? =some (some (.str (c::w)))->Re (d+4) ls H (.ife (.j .eq (.slice (.v 4) none (some (.lit (.int 1)))) (.lit (.str [45]))) (.neg (.lit (.int 1))) (.lit (.int 1))) (.int (cond ng (-1) 1),H):=fun{ls H} h=>by
  have:=gE (H:=H) (c:= .j .eq (.slice (.v 4) none (some (.lit (.int 1)))) (.lit (.str [45]))) rfl (dw (d:=d+4) (H:=H) (kX (ah h) az tk) az (eq_str hs))
  cases ng using aE with
  | true=>exact eW this (pZ az)
  | false=>exact fz this az
 have s5:∀{ls:Ls} {H:Hp},ls[4]? =some (some (.str (c::w)))->Re (d+4) ls H (.ife (.j .isin (.slice (.v 4) none (some (.lit (.int 1)))) (.U [(.lit (.str [43])),(.lit (.str [45]))])) (.slice (.v 4) (some (.lit (.int 1))) none) (.v 4)) (.str w',H):=fun{ls H} h=>by
  have:=gE (H:=H) (c:= .j .isin (.slice (.v 4) none (some (.lit (.int 1)))) (.U [(.lit (.str [43])),(.lit (.str [45]))])) rfl (dw (d:=d+4) (H:=H) (kX (ah h) az tk) (gQ (gR (gR ao)) (aM (ab rfl))) (EU hp))
  subst hw'
  cases pm using aE with
  | true=>exact eW this (oS (ah h) az (oF (i:=1) hl))
  | false=>exact fz this (ah h)
 have fn:fQ (cond ng (-1) 1)=true:=by
  cases ng using aE with
  | true=>exact hm1
  | false=>exact E7
 exact bx (F:=Sv) rfl rfl rfl (cK (bg (ak (oR (ah rfl) rfl ao lo) (bV rfl ao)) (Ug hc hl)) rfl (ie (cS rfl rfl) (lP (ah rfl) (mm (di (eh rfl) (di (eh rfl) (di (eh rfl) jB)))) (aB (iT (s4 rfl) (eh rfl)) (aB (iT (bg (ak (s5 rfl) (ak (ah rfl) ao)) e73) (eh rfl)) (aB (cU (gE rfl (dw (ah rfl) az rfl)) ba) (aB (iT (Am (dw (ah rfl) az rfl) (BG (dw (ah rfl) az rfl) (c9 (ah rfl) hk rfl rfl))) (eh rfl)) (eP (kH (bg (ak (ah rfl) (ak (bS (ah rfl) (c9 (ah rfl) hk rfl rfl) (Hu fn hm)) (ak (c9 (ah rfl) hk rfl rfl) (ak (ah rfl) ao)))) e75))))))))))
end
end
section
mutual
variable{c:Nat}
variable{d:Nat}{H H':Hp}
def j4{k:Nat}(h:rq c)(hk:k<48):k≠c:=λe=>absurd h.1 (by erw [<- e];exact AK hk)
def A1(h:rq c):decide (([c]:List Nat)= [45])=false:=mC (Ne.symm (j4 h (by decide)))
def A2(h:rq c):(decide (([43]:List Nat)= [c]) || (decide (([45]:List Nat)= [c]) || false))=false:=by
 erw [(mC (j4 h (by decide))),(mC (j4 h (by decide)))];rfl
def xB{a:Nat}:∀{r:AV×Hp} {b:Int},aP (d+4) H' 75 [.int 53, .int (a:Int), .int b, .bool true] r->aP (d+4) H' 75 [.int 53, .int (cond false (-1) 1*(a:Int)), .int b, .bool true] r:=λh=>by
 erw [(show cond false (-1) (1:Int)=1 from rfl),Int.one_mul];exact h
def Rk{i:Int}(hi:i.natAbs<=1000):∃H',aP (d+5) H 76 [.int 53, .str (dG i), .int 10] (.int i,H')/\Keep all H H':=by
 cases i using iu with
 | ofNat n=>
  refine vp (jK (n:=n) hi) λhd hn hl hv=>?_;refine dX (O5 (d:=d+1) (H:=H) hd hn (aj hl (ab rfl))) λk H' e hk K=>?_;rw[hv]at hk;refine bH H' ?_ K;show R.call (d+5) H 76 [.int 53, .str (bQ n), .int 10]=_;cases hw:bQ n with
  | nil=>exact absurd hw hn
  | cons c w=>
   rw[hw]at hd hl e;have hc:=hd c bj;exact PP (w':=c::w) (λx m=>gJ (hd x m).2 (ab rfl)) (Ne.symm (j4 hc (by decide))) (aj hl (ab rfl)) (A1 hc) (A2 hc) rfl e hk (fU (fC hi (al (show 1000<10 ^ 4 from ab rfl) (cp (cH _) (ab rfl))))) tH (xB (PQ O7))
 | negSucc n=>
  have hi':n+1<=1000:=hi;refine vp (jK hi') λhd hn hl hv=>?_;refine dX (O5 (d:=d+1) (H:=H) hd hn (aj hl (ab rfl))) λk H' e hk K=>?_;rw[hv]at hk;refine bH H' ?_ K;show R.call (d+5) H 76 [.int 53, .str (45::bQ (n+1)), .int 10]=_;refine PP (ng:=true) (pm:=true) (w':=bQ (n+1)) (λx m=>?_) (by decide) (dA (aj hl (ab rfl))) (by decide) (by decide) rfl e hk (fU (fC hi' (al (show 1000<10 ^ 4 from ab rfl) (cp (cH _) (ab rfl))))) tH (PQ ?_)
  ·cases aQ.mp m with
   | inl h=>erw [h];decide
   | inr h=>exact gJ (hd x h).2 (ab rfl)
  ·erw [(show cond true (-1) (1:Int)*((n+1:Nat):Int)=B0 n from by erw [(show cond true (-1) (1:Int)= -1 from rfl),Int.neg_one_mul];rfl)]
   exact O7
end
end
mutual
def uz:∀{a:List Nat},(∀c∈a,rq c)->eY 47 a= [a]
 | [],_=>rfl
 | c::r,h=>by
  have hc:=h c bj;unfold eY
  erw [(show aW c 47=false from gM.mpr λe=>j4 hc (by decide) (aV e).symm),(uz λc m=>h c (bN _ m))];rfl
def uA{b:List Nat}(hb:∀c∈b,rq c):∀{a:List Nat},(∀c∈a,rq c)->eY 47 (a++47::b)= [a,b]
 | [],_=>by
  show eY 47 (47::b)=_;unfold eY
  erw [(show aW 47 47=true from rfl),uz hb];rfl
 | c::r,h=>by
  have hc:=h c bj;show eY 47 (c::(r++47::b))=_;unfold eY
  erw [(show aW c 47=false from gM.mpr λe=>j4 hc (by decide) (aV e).symm),(uA hb λc m=>h c (bN _ m))];rfl
end
section
mutual
variable{d:Nat}{H H':Hp}
def Ui{a b:List Nat}(ha:∀c∈a,rq c)(hb:∀c∈b,rq c)(na:a≠ [])(nb:b≠ [])(la:a.length<=20)(lb:b.length<=20)(h0:val 0 b≠0):∃k H',aP (d+3) H 67 [.str (a++47::b), .int 10] (.ref k,H')/\Hk H' k (.n 19 [(32, .int (val 0 a)),(33, .int (val 0 b)),(38, .bool true)])/\Keep all H H':=by
 have K0:Keep all H (H++ [.list [.str a, .str b]]):=Keep.app;refine dX (Rn (d:=d) (H:=H++ [.list [.str a, .str b]]) ha na la) λk1 H1 e1 h1 K1=>?_;refine dX (Rn (d:=d) (H:=H1) hb nb lb) λk2 H2 e2 h2 K2=>?_;have hl:(a++47::b).length<=1000000:=by simp only[af,aI];exact(bE (aJ ai cN) cX [(ay,aG 20),(ai,aG 20)] aR lb la)
 have sp:uc (a++47::b) 10 [.str [47]] H=some (.ref H.length,H++ [.list [.str a, .str b]]):=by
  show eU (cF (a++47::b).length) (some (lK H (.list ((eY 47 (a++47::b)).map .str))))=_
  erw [aM hl,uA hb ha];rfl
 have g0:Hk (H++ [Cell.list [.str a, .str b]]) (H.length) (.list [.str a, .str b]):=aU;have g1:=K1.at_ _ _ trivial g0;have h1':=K2.at_ _ _ trivial h1;refine i5 _ _ (bx (F:=Sz) rfl rfl rfl (cK (oR (ah rfl) rfl (gR ao) sp) rfl (ie (gN (eH (ak (ah rfl) ao) (kg g0 (ab rfl))) az rfl) (lP (gQ (ak (bg (ak (dC (ah rfl) az (fi (i:=0) g0 (ab rfl) rfl)) (ak (ah rfl) ao)) e1) (ak (bg (ak (dC (ah rfl) az (fi (i:=1) g1 (ab rfl) rfl)) (ak (ah rfl) ao)) e2) ao)) (aM (ab rfl))) (mm (di (eh rfl) (di (eh rfl) jB))) (aB (cU (iP (gE rfl (dw (ah rfl) az rfl)) (iP (gE rfl (dw (ah rfl) az rfl)) (gE rfl (dw (c9 (ah rfl) h2 rfl rfl) az (dF (mO.mpr h0)))))) ba) (eP (kH (gG (ak (c9 (ah rfl) h1' rfl rfl) (ak (c9 (ah rfl) h2 rfl rfl) (ak (BG (c9 (ah rfl) h1' rfl rfl) (c9 (ah rfl) h2 rfl rfl)) ao))) rfl S9)))))))) aU (((K0.trans K1).trans K2).trans Keep.app)
end
end
section
mutual
variable{a b:List Nat}
variable{d:Nat}{H H':Hp}
def Rm(ha:∀c∈a,rq c)(hb:∀c∈b,rq c)(na:a≠ [])(nb:b≠ [])(la:a.length<=20)(lb:b.length<=20)(h0:val 0 b≠0):∃k H',aP (d+4) H 73 [.str (a++47::b), .int 10] (.ref k,H')/\Hk H' k (.n 19 [(32, .int (val 0 a)),(33, .int (val 0 b)),(38, .bool true)])/\Keep all H H':=by
 refine dX (Ui (d:=d) (H:=H) ha hb na nb la lb h0) λk H' e hk K=>?_;exact i5 k H' (bx (F:=Q1) rfl rfl rfl (mu (gN az (ah rfl) (by show some ((a++47::b).contains 47)=_;erw [fu.mpr (bB _ bj)];rfl)) (fx (bg (bV rfl (ak (ah rfl) ao)) e)))) hk K
def NY(ha:∀c∈a,rq c)(hb:∀c∈b,rq c):∀x∈a++47::b,x<65:=λx m=>by
 cases dy.mp m with
 | inl h=>exact gJ (ha x h).2 (ab rfl)
 | inr h=>cases aQ.mp h with
  | inl h=>erw [h];decide
  | inr h=>exact gJ (hb x h).2 (ab rfl)
def E6{n:Nat}(h:n<=1000):fQ (n:Int)=true:=fU (fC h (al (show 1000<10 ^ 4 from ab rfl) (cp (cH _) (ab rfl))))
def Rj{p:Int}{q:Nat}(hp:p.natAbs<=1000)(h2:2<=q)(hq:q<=1000)(hg:yW q p.natAbs=1):∃k H',aP (d+5) H 76 [.int 53, .str (dG p++47::bQ q), .int 10] (.ref k,H')/\Hk H' k (.n 17 [(32, .int p),(33, .int q)])/\Keep all H H':=by
 refine vp (jK hq) λhbd hbn hbl hbv=>?_;have q2:(2:Int)<=(q:Int):=bO.mpr h2;have hb20:(bQ q).length<=20:=aj hbl (ab rfl);refine vp (jK hp) λhad han hal hav=>?_;have ha20:(bQ p.natAbs).length<=20:=aj hal (ab rfl);refine dX (Rm (d:=d) (H:=H) had hbd han hbn ha20 hb20 (by erw [hbv];exact(λzz=>(QX [(aG 2,ai),(ai,aG 0)] aR h2 (pJ zz))))) λk H1 e hk K=>?_;rw[hav,hbv]at hk;have g45:R.call (d+3) H1 45 [.int p, .int q]=_:=Ru q2 hg;refine i5 H1.length (H1++ [.n 17 [(32, .int p),(33, .int q)]]) ?_ aU (K.trans Keep.app)
 cases p using iu with
 | ofNat n=>
  show R.call (d+5) H 76 [.int 53, .str (bQ n++47::bQ q), .int 10]=_;have e':aP (d+4) H 73 [.str (bQ n++47::bQ q), .int 10] (.ref k,H1):=e;have had':∀c∈bQ n,rq c:=had;have hal':(bQ n).length<=4:=hal;cases hw:bQ n with
  | nil=>exact absurd hw han
  | cons c w=>
   rw[hw]at e' had' hal';have hc:=had' c bj;have hlen:(c::(w++47::bQ q)).length<=1000000:=by erw [aI,af,aI];rw[aI]at hal';exact(bE (eS (aJ ai cN)) cX [(ay,aG 4),(bf,aG 4)] aR hbl hal')
   exact PP (w':=c::(w++47::bQ q)) (NY had' hbd) (Ne.symm (j4 hc (by decide))) hlen (A1 hc) (A2 hc) rfl e' hk (E6 hp) tH (xB (PQ g45))
 | negSucc n=>
  have had':∀c∈bQ (n+1),rq c:=had;have hal':(bQ (n+1)).length<=4:=hal;have e':aP (d+4) H 73 [.str (bQ (n+1)++47::bQ q), .int 10] (.ref k,H1):=e;show R.call (d+5) H 76 [.int 53, .str (45::(bQ (n+1)++47::bQ q)), .int 10]=_;refine PP (ng:=true) (pm:=true) (w':=bQ (n+1)++47::bQ q) (λx m=>?_) (by decide) (by simp only[aI,af];exact(bE (eS (aJ ai cN)) cX [(ay,aG 4),(ai,aG 4)] aR hbl hal')) (by decide) (by decide) rfl e' hk (E6 hp) tH (PQ ?_)
  ·cases aQ.mp m with
   | inl h=>erw [h];decide
   | inr h=>exact NY had' hbd x h
  ·erw [(show cond true (-1) (1:Int)*(((B0 n).natAbs:Nat):Int)=B0 n from by erw [(show cond true (-1) (1:Int)= -1 from rfl),Int.neg_one_mul];rfl)]
   exact g45
end
end
section
mutual
variable{a b:Int}{g c:Nat}
variable{H h:Hp}{d D f:Nat}{args:List AV}{p:AV->Hp->Bool}
def HU(e:L6 d h f args p=true):∃v h',p v h'=true/\aP (d+D) (G H h) f (shs H.length args) (sh H.length v,G H h'):=by
 unfold L6 at e;cases h1:(pv 400).call d h f args with
 | none=>rw[h1]at e;exact nomatch e
 | some r=>rw[h1]at e;exact kS r.1 r.2 e (FL h1)
def Jo{f:Nat}{p:Nat×AV}(h:qF f a p=true):p=(f, .int a):=by
 have h:=ag.mp h;exact Prod.ext (of_decide_eq_true h.1) (Bb h.2)
def KQ{f:Nat}{l:List (Nat×AV)}(h:R5 f g a b l=true):l= [(f, .int a),(g, .int b)]:=by
 rcases l with _ | ⟨x,_ | ⟨y,_ | ⟨z,l⟩⟩⟩
 ·exact ll h
 ·exact ll h
 ·have h:=ag.mp h
  erw [Jo h.1,Jo h.2];rfl
 ·exact ll h
def NC{f:Nat}{x:Cell}(h:qC c f g a b x=true):x= .n c [(f, .int a),(g, .int b)]:=by
 cases x using Cell.casesOn with
 | n c' l=>
  have h:=ag.mp h
  erw [of_decide_eq_true h.1,KQ h.2];rfl
 | _=>exact ll h
def NB{f:Nat}{v:AV}{h:Hp}(e:qO c f g a b v h=true):∃k,v= .ref k/\h[k]? =some (.n c [(f, .int a),(g, .int b)]):=by
 cases v using AV.casesOn with
 | ref k=>
  refine aL ((iz _ _).mp e) λx hx q=>?_;exact bH k rfl (hx.trans (congrArg some (NC q)))
 | _=>exact ll e
def Rl{m e:Int}(hr:(m,e)∈mY):∃k H',aP (12+D) H 76 [.int 53, .str (fP m e), .int 10] (.ref k,H')/\Hk H' k (.n 16 [(30, .int m),(31, .int e)])/\Keep all H H':=by
 refine gy (HU (H:=H) (D:=D) (aS.mp G3 (m,e) hr)) λv h' hp e1=>?_;refine aL (NB hp) λk hv hk=>?_;subst hv;rw[show G H []=H from bq H]at e1;exact i5 (k+H.length) (G H h') e1 (by show(_:Option Cell)=_;erw [t8,hk];rfl) Keep.app
end
end
mutual
abbrev qB(b:Bool):AV->Bool
 | .bool c=>decide (c=b)
 | _=>false
def ND{b:Bool}{v:AV}(h:qB b v=true):v= .bool b:=by
 cases v using AV.casesOn with | bool t=>erw [of_decide_eq_true h];rfl | _=>exact ll h
def AS:(names.all λs=>yF 8 [] 78 [.str s] (qS s) && yF 8 [] 81 [.str s] (qB true))=true:=by decide+kernel
end
section
mutual
variable{s:List Nat}
variable{H:Hp}{d D:Nat}
def xG(h:s∈names):∃H',aP (8+D) H 78 [.str s] (.str s,H')/\Keep all H H':=by
 have:=(ag.mp (aS.mp AS s h)).1;refine dX (lH (H:=H) (D:=D) this rfl) λv H' hp e K=>?_;cases uG hp
 exact bH H' e K
def zT(h:s∈names):∃H',aP (8+D) H 81 [.str s] (.bool true,H')/\Keep all H H':=by
 have:=(ag.mp (aS.mp AS s h)).2;refine dX (lH (H:=H) (D:=D) this rfl) λv H' hp e K=>?_;cases ND hp
 exact bH H' e K
end
end
mutual
abbrev Lx(H:Hp)(l:Nat)(t:List Nat)(p:Nat):Prop:=Hk H l (.n 21 [(13, .str t),(42, .int 53),(26, .int p),(43, .bool true)])
abbrev Tk(H:Hp)(k:Nat)(w:List Nat)(v:AV)(s e:Nat):Prop:=Hk H k (.n 20 [(23, .str w),(39,v),(40, .int s),(41, .int e)])
end
section
mutual
variable{d:Nat}{H H':Hp}{l p e:Nat}{t w:List Nat}{v:AV}
def S8{a b c f:AV}:aP (d+1) (H++ [.n 20 []]) 77 [.ref H.length,a,b,c,f] (.none,H++ [.n 20 [(23,a),(39,b),(40,c),(41,f)]]):=fB (F:=Su) rfl rfl rfl (aB (dS rfl (ah rfl) rfl rfl) (aB (dS rfl (ah rfl) rfl rfl) (aB (dS rfl (ah rfl) rfl rfl) (aB (dS rfl (ah rfl) rfl rfl) ba))))
def JV(L:Lx H l t p):∃k H',aP (d+2) H 89 [.ref l, .str w,v, .int e] (.ref k,H')/\Tk H' k w v p e/\Lx H' l t e/\Keep (·≠l) H H':=by
 have g:(H.set l (.n 21 [(13, .str t),(42, .int 53),(26, .int e),(43, .bool true)]))[l]? =_:=cO (bw L);exact d0 _ _ (bx (F:=Sm) rfl rfl rfl (cK (cB rfl L rfl rfl) rfl (lP (ah rfl) (jC (ah rfl) L rfl rfl) (fx (gG (ak (ah rfl) (ak (ah rfl) (ak (ah rfl) (ak (ah rfl) ao)))) rfl S8))))) aU (bC g) ((Keep.set λo=>o rfl).trans Keep.app)
end
end
mutual
noncomputable abbrev p6:List Nat:= [32,10,9,13,12,40,41,34,59]
noncomputable abbrev Cj:List Nat:= [91,93,123,125,124]
noncomputable abbrev Q8:S:=(.while (.and (.j .lt (.v 2) (.bi .len [(.aT (.v 0) 13)])) (.j .notin (.idx (.aT (.v 0) 13) (.v 2)) (.lit (.str p6)))) [(.ite (.j .isin (.idx (.aT (.v 0) 13) (.v 2)) (.lit (.str Cj))) [.fail] []),(.aS (.v 2) (.o .add (.v 2) (.lit (.int 1))))])
end
section
mutual
variable{c:Nat}{s:List Nat}{q:Bool}
variable{d:Nat}{H H':Hp}{l p:Nat}{t:List Nat}
def jI(h:s.contains c=q):iI H .isin (.str [c]) (.str s)=some q:=congrArg some h
def pH(h:s.contains c= !q):iI H .notin (.str [c]) (.str s)=some q:=by
 show(some (s.contains c)).map (!·)=_
 erw [h]
 induction q using aE <;> rfl
def yx{x1:Option AV}(L:Lx H l t p)(hl:t.length<=1000000):∀(n a:Nat),(∀i,i<n->∃c,t[a+i]? =some c/\p6.contains c=false/\Cj.contains c=false)->(∀c,t[a+n]? =some c->p6.contains c=true)->
  Rs d [some (.ref l),x1,some (.int a),none,none] H Q8 (.next,[some (.ref l),x1,some (.int (a+n:Nat)),none,none],H)
 | 0,a,_,hs=>by
  have ln:Re d [some (.ref l),x1,some (.int a),none,none] H (.bi .len [(.aT (.v 0) 13)]) (.int t.length,H):=eH (ak (cB rfl L rfl rfl) ao) (len_str hl);cases hc:t[a]? with
  | none=>exact eR (pj (gN (ah rfl) ln (dF (jf.mpr (bO.mpr (fm.mp hc))))))
  | some c=>exact eR (mx (gN (ah rfl) ln (dT (fW.mpr (aT.mp hc).1))) (gN (dC (cB rfl L rfl rfl) (ah rfl) (ja hc hl)) az (pH (hs c hc))))
 | n+1,a,hi,hs=>by
  refine dq (hi 0 (k6 n)) λc hc h1 h2=>?_;have ln:Re d [some (.ref l),x1,some (.int a),none,none] H (.bi .len [(.aT (.v 0) 13)]) (.int t.length,H):=eH (ak (cB rfl L rfl rfl) ao) (len_str hl);have e:=yx (x1:=x1) L hl n (a+1) (λi h=>by erw [f6,dn 1 i];exact hi (i+1) (Nat.succ_lt_succ h)) (by erw [f6,dn 1 n];exact hs);rw[f6,dn 1 n]at e;exact eQ (mx (gN (ah rfl) ln (dT (fW.mpr (aT.mp hc).1))) (gN (dC (cB rfl L rfl rfl) (ah rfl) (ja hc hl)) az (pH h1))) (ie (gN (dC (cB rfl L rfl rfl) (ah rfl) (ja hc hl)) az (jI h2)) (cK (bS (ah rfl) az rfl) rfl ba)) e
def T6(L:Lx H l t p)(hl:t.length<=1000000){n a:Nat}(hi:∀i,i<n->∃c,t[a+i]? =some c/\p6.contains c=false/\Cj.contains c=false)(hs:∀c,t[a+n]? =some c->p6.contains c=true):aP (d+1) H 90 [.ref l, .int a] (.int (a+n:Nat),H):=
 bx (F:=Sl) rfl rfl rfl (cK (ah rfl) rfl (aB (yx L hl n a hi hs) (fx (ah rfl))))
end
end
mutual
abbrev HK(c:Nat):Prop:=rq c\/c=45
end
section
mutual
variable{d:Nat}{H H':Hp}{c:Nat}{w:List Nat}
def vT(h:HK c):([97,98,99,100,101,102,103,104,105,106,107,108,109,110,111,112,113,114,115,116,117,118,119,120,121,122]:List Nat).contains c=false/\([33,36,37,38,42,47,58,60,61,62,63,94,95,126]:List Nat).contains c=false/\(qU.contains c || ([43,45,46]:List Nat).contains c)=true:=by
 have t:∀c<58,45<=c->c≠46->c≠47->([97,98,99,100,101,102,103,104,105,106,107,108,109,110,111,112,113,114,115,116,117,118,119,120,121,122]:List Nat).contains c=false/\([33,36,37,38,42,47,58,60,61,62,63,94,95,126]:List Nat).contains c=false/\(qU.contains c || ([43,45,46]:List Nat).contains c)=true:=by decide
 cases h using cV with
 | inl h=>exact t c h.2 (aj (by decide) h.1) (Ne.symm (j4 h (by decide))) (Ne.symm (j4 h (by decide)))
 | inr h=>exact t c (by erw [h];decide) (by erw [h];decide) (by erw [h];decide) (by erw [h];decide)
def Ud(h:HK c):aP (d+1) H 79 [.str [c]] (.bool false,H):=
 bx (F:=Sr) rfl rfl rfl (fx (Am (dw (ah rfl) az (jI (vT h).1)) (dw (ah rfl) az (jI (vT h).2.1))))
def Ub(h:HK c)(hl:(c::w).length<=1000000):aP (d+1) H 82 [.str (c::w)] (.bool true,H):=by
 have f:=(vT h).2.2;refine bx (F:=So) rfl rfl rfl (fx ?_);have ix:Re d [some (.str (c::w)),none,none] H (.idx (.v 0) (.lit (.int 0))) (.str [c],H):=dC (ah rfl) az (ja (i:=0) rfl hl);cases h1:qU.contains c with
 | true=>exact LX (dw ix az (jI h1))
 | false=>
  rw[h1]at f;exact Am (dw ix az (jI h1)) (dw ix az (jI f))
end
end
section
mutual
variable{d:Nat}{H H':Hp}{c:Nat}{w:List Nat}
def Hm(h:HK c)(hw:c::w≠ [45]):(([[43],[45],[46,46,46]]:List (List Nat)).any λy=>decide (y=c::w))=false:=by
 have e1:decide (([43]:List Nat)=c::w)=false:=decide_eq_false λe=>by
  have:=(dB e).1
  cases h using cV with
  | inl h=>exact j4 h (by decide) this
  | inr h=>rw[h]at this;exact absurd this (by decide)
 have e2:decide (([45]:List Nat)=c::w)=false:=decide_eq_false λe=>hw e.symm;have e3:decide (([46,46,46]:List Nat)=c::w)=false:=decide_eq_false λe=>by
  have:=(dB e).1
  cases h using cV with
  | inl h=>exact j4 h (by decide) this
  | inr h=>rw[h]at this;exact absurd this (by decide)
 show(decide _ || (decide _ || (decide _ || false)))=false
 erw [e1,e2,e3];rfl
def Uc(h:HK c)(hw:c::w≠ [45])(hl:(c::w).length<=1000000):aP (d+2) H 81 [.str (c::w)] (.bool false,H):=
 bx (F:=Sp) rfl rfl rfl (ie (cS rfl (congrArg some (Hm h hw))) (mu (iP (cS rfl (dF (λe=>nomatch e))) (uy (mv (ak (dC (ah rfl) az (ja (i:=0) rfl hl)) ao) (Ud h)))) (fx az)))
end
end
mutual
noncomputable abbrev FB:List Nat:= [65,66,67,68,69,70,71,72,73,74,75,76,77,78,79,80,81,82,83,84,85,86,87,88,89,90]
def zJ:∀{s:List Nat} {c:Nat},(∀x∈s,x≠c)->gf c s=none
 | [],_,_=>rfl
 | x::r,c,h=>by
  show(match aW x c with | true=>some 0 | false=>(gf c r).map (· +1))=none
  erw [(show aW x c=false from gM.mpr λe=>h x bj (aV e)),(zJ λy m=>h y (bN _ m))]
  rfl
end
section
mutual
variable{d:Nat}{H:Hp}
def Ib{c:Nat}(h:c<65):uc FB 4 [.str [c]] H=some (.int (-1),H):=by
 show some (AV.int (pW (gf c FB) 0),H)=_;have t:∀x∈FB,65<=x:=by decide
 have n:gf c FB=none:=zJ λx m e=>by
  have:=t x m
  exact(CL [(aG 65,ai),(ai,ay),(cN,aG 65)] aR this (pJ e) h)
 erw [n]
 rfl
def uU{l0 l4 l5:Option AV}:∀(cs:List Nat) (us:List (List Nat)) (x2 x3:Option AV),(∀c∈cs,c<65)->us.length+cs.length<=1000000->
  ∃x2' x3',lL d [l0,some (.ref H.length),x2,x3,l4,l5] (H++ [.list (us.map .str)]) (.str cs) (.one 2) [(.aS (.v 3) (.meth (.lit (.str FB)) 4 [(.v 2)])),(.expr (.meth (.v 1) 0 [(.ife (.j .lt (.v 3) (.lit (.int 0))) (.v 2) (.idx (.lit (.str [97,98,99,100,101,102,103,104,105,106,107,108,109,110,111,112,113,114,115,116,117,118,119,120,121,122])) (.v 3)))]))] (.next,[l0,some (.ref H.length),x2',x3',l4,l5],H++ [.list ((us++cs.map λc=> [c]).map .str)])
 | [],us,x2,x3,_,_=>⟨x2,x3,by erw [mS,bq];exact iH rfl⟩
 | c::cs,us,x2,x3,h,hu=>by
  obtain⟨x2',x3',e⟩:=uU cs (us++ [[c]]) (some (.str [c])) (some (.int (-1))) (λc m=>h c (bN _ m)) (by erw [af];simp only[aI,dW]at hu |-;exact(bE (aJ (aJ ai (eS (aG 0))) ay) cX [(aJ ai cN,cX)] aR hu));refine ug x2' x3' (fq rfl rfl (cK (oR az rfl (bV rfl ao) (Ib (h c bj))) rfl (uv (ft (ah rfl) aU (eW (cS rfl rfl) (ah rfl)) aU (aM (by erw [aK];exact aj (bu _ _) hu))) ba)) ?_)
  erw [lC,(show us.map AV.str++ [.str [c]]=(us++ [[c]]).map .str from by erw [bp];rfl)]
  rw[aA]at e;exact e
def Ue{cs:List Nat}(h:∀c∈cs,c<65)(hl:cs.length<=1000000):∃H',aP (d+1) H 78 [.str cs] (.str cs,H')/\Keep all H H':=by
 refine y4 (uU (d:=d) (H:=H) (l0:=some (.str cs)) (l4:=none) (l5:=none) cs [] none none h (by show 0+_<=_;exact(cz (aJ (aG 0) ai) cX [(ai,cX)] aR hl))) λx2 x3 e=>?_;have j:=oU (d:=d) (ls:= [some (.str cs),some (.ref H.length),x2,x3,none,none]) (a:= .v 1) (ah rfl) (aU (H:=H) (c:= .list (([]++cs.map λc=> [c]).map .str))) (by erw [fM,aK];exact hl) (by erw [fM,pU];exact hl);rw[fM,pU]at j;rw[fM]at e;exact bH _ (bx (F:=Ss) rfl rfl rfl (cK (fK ao (aM (aX _))) rfl (aB (mL (ah rfl) rfl e) (fx j)))) Keep.app
end
end
section
mutual
variable{t w r:List Nat}{p i c:Nat}
def BS(h:t.drop p=w++r)(hi:w[i]? =some c):t[p+i]? =some c:=by
 erw [<- wM,h,dj (aT.mp hi).1];exact hi
def Mo(h:t.drop p=w++r):t[p+w.length]? =r[0]?:=by
 erw [<- wM,h,de (aw _),mR];rfl
def nQ(h:t.drop p=c::r):t[p]? =some c:=BS (w:= [c]) (i:=0) h rfl
def CW(h:t.drop p=w++r):t.drop (p+w.length)=r:=by erw [<- List.drop_drop,h,List.drop_left];rfl
def Aq(h:t.drop p=w++r):(t.take (p+w.length)).drop p=w:=by erw [List.drop_take,h,Nat.add_sub_cancel_left,List.take_left];rfl
end
end
mutual
def m5{b:Bool}(h:(!b)=true):b=false:=by induction b using aE <;> first | rfl | exact nomatch h
def dE{H:Hp}{a b:List Nat}(h:a≠b):iI H .eq (.str a) (.str b)=some false:=dF h
def gd{H:Hp}{a b:List Nat}(h:a=b):iI H .eq (.str a) (.str b)=some true:=dT h
abbrev hZ(r:List Nat):Prop:= ∀c,r[0]? =some c->p6.contains c=true
abbrev sa(w:List Nat):Bool:=w.all λc=> !p6.contains c && !Cj.contains c
noncomputable abbrev vw:List Nat:= [115,121,109,98,111,108]
noncomputable abbrev El:List Nat:= [110,117,109,98,101,114]
end
section
mutual
variable{d:Nat}{H aq aO H':Hp}{l p:Nat}{t w r:List Nat}{v:AV}
def AQ(L:Lx H l t p)(hl:t.length<=1000000)(h:t.drop p=w++r)(hs:hZ r)(hw:sa w=true):aP (d+1) H 90 [.ref l, .int p] (.int (p+w.length:Nat),H):=
 T6 L hl (λi hi=>by
  have e:w[i]? =some w[i]:=bl hi;have b:=ag.mp (aS.mp hw w[i] (List.getElem_mem hi));exact eF (w[i]) (BS h e) (m5 b.1) (m5 b.2)) λc e=>hs c ((Mo h).symm.trans e)
def Lx.keep(L:Lx H l t p)(K:Keep all H H'):Lx H' l t p:=K.at_ _ _ trivial L
def uw(L:Lx H l t p)(hl:t.length<=1000000)(h:t.drop p=w++r)(hs:hZ r)(hw:sa w=true)(hne:w≠ [46])(hf:aP (d+19) H 78 [.str w] (.str w,aq)){ss:List S}{o:Fl×Ls×Hp}
  (k:gH (d+19) [some (.ref l),some (.int p),some (.int (p+w.length:Nat)),some (.str w),some (.str w),none,none] aq (MY.body.drop 5) o):gH (d+19) [some (.ref l),none,none,none,none,none,none] H MY.body o:=
 cK (cB rfl L rfl rfl) rfl (cK (i4 rfl L rfl rfl rfl (ak (ah rfl) ao) (AQ L hl h hs hw)) rfl (cK (jy (c9 (ah rfl) L rfl rfl) (ah rfl) (ah rfl) ((pA hl).trans (by erw [Aq h];rfl))) rfl (aB (cU (gE rfl (dw (ah rfl) az (dE hne))) ba) (aB (iT (bg (ak (ah rfl) ao) hf) (eh rfl)) k))))
def Gp:(names.all λw=>sa w && !decide (w= [46]))=true:=by decide+kernel
def Rg(L:Lx H l t p)(hl:t.length<=1000000)(h:t.drop p=w++r)(hs:hZ r)(hn:w∈names):∃k H',aP (d+20) H 91 [.ref l] (.ref k,H')/\Tk H' k vw (.str w) p (p+w.length:Nat)/\Lx H' l t (p+w.length)/\Keep (·≠l) H H':=by
 have b:=ag.mp (aS.mp Gp w hn);refine aL (xG (H:=H) (D:=d+11) hn) λaq e1 K1=>?_;refine aL (zT (H:=aq) (D:=d+11) hn) λaO e2 K2=>?_;rw[show 8+(d+11)=d+19 from by exact dn ..]at e1 e2;have L2:=(L.keep K1).keep K2;refine fy (JV (d:=d+17) (w:=vw) (v:= .str w) (e:=p+w.length) L2) λk H' e3 T L3 K3=>?_;exact d0 k H' (bx (F:=MY) rfl rfl rfl (uw L hl h hs b.1 (of_decide_eq_false (m5 b.2)) e1 (ss:= []) (mu (mv (bV rfl ao) e2) (fx (i4 rfl L2 rfl rfl rfl (ak az (ak (eW (gE rfl (c9 (ah rfl) L2 rfl rfl)) (ah rfl)) (ak (ah rfl) ao))) e3))))) T L3 ((K1.weak λzz zy=>trivial).trans ((K2.weak λzz zy=>trivial).trans K3))
def T5{s:Int}(L:Lx H l t p)(h:aP (d+1) H 76 [.int 53, .str w, .int 10] (v,H'))(hv:mD v=false):aP (d+2) H 92 [.ref l, .str w, .int s] (v,H'):=
 bx (F:=Sj) rfl rfl rfl (cK (bg (ak (cB rfl L rfl rfl) (bV rfl (gR ao))) h) rfl (ie (cS rfl (congrArg some hv)) (fx (ah rfl))))
end
end
mutual
abbrev qQ:Cell->Bool
 | .n c _=>([1,3,4,5,6,16,17]:List Nat).contains c
 | _=>false
abbrev Nw(n:Nat)(H:Hp)(es:List (List Nat×AV))(k:Nat):Prop:=(∀c,Hk H k c->n<=k\/qQ c=true)/\∀i s,Hk H k (.n 1 [(12,i),(13, .str s)])->kr s es=some (.ref k)
abbrev Sub(es es':List (List Nat×AV)):Prop:= ∀s v,kr s es=some v->kr s es'=some v
def Sub.refl{es:List (List Nat×AV)}:Sub es es:=λzz zy h=>h
def Sub.trans{a b c:List (List Nat×AV)}(x:Sub a b)(y:Sub b c):Sub a c:=λs v h=>y s v (x s v h)
abbrev iD(n:Nat)(H:Hp)(ok:Nat->Prop):Prop:= ∀k c,Hk H k c->n<=k\/qQ c=true->ok k
def gI.move{n n':Nat}{H H':Hp}{es es':List (List Nat×AV)}{ok:Nat->Prop}{v:AV}{x:D}(r:gI (Nw n H es) H v x)(K:Keep ok H H')(h:iD n H ok)(s:Sub es es')(hn:n'<=n):gI (Nw n' H' es') H' v x:=by
 refine r.mono (λk c o e=>?_) x v;have e':=K.at_ k c (h k c e (o.1 c e)) e;refine⟨⟨λc' g=>?_,λi s' g=>?_⟩,e'⟩
 ·cases e'.symm.trans g
  exact(o.1 c e).imp (aj hn) id
 ·cases e'.symm.trans g
  exact s _ _ (o.2 i s' e)
def iD.lt{n:Nat}{H:Hp}:iD n H all:=λzz zy zx zw=>trivial
def iD.ne{n:Nat}{H:Hp}{c:Cell}(h:Hk H j c)(hj:j<n)(hc:qQ c=false):iD n H (·≠j):=λk c' e o q=>by
 subst q;cases h.symm.trans e
 cases o using cV with
 | inl o=>exact absurd hj (Nat.not_lt_of_le o)
 | inr o=>rw[hc]at o;exact nomatch o
def iD.and{n:Nat}{H:Hp}{a b:Nat->Prop}(x:iD n H a)(y:iD n H b):iD n H (λk=>a k/\b k):=λk c e o=>⟨x k c e o,y k c e o⟩
def jU{n k:Nat}{H:Hp}{es:List (List Nat×AV)}{c:Cell}(h:Hk H k c)(hc:qQ c=true)(h1:∀i s,c≠ .n 1 [(12,i),(13, .str s)]):Nw n H es k:=⟨λc' e=>by cases h.symm.trans e;exact .inr hc,λi s e=>absurd (ae (h.symm.trans e)) (h1 i s)⟩
abbrev MR(w:List Nat)(x:D):Prop:= ∀{d:Nat} {H:Hp},∃v H',aP (d+18) H 76 [.int 53, .str w, .int 10] (v,H')/\mD v=false/\Keep all H H'/\∀n es,gI (Nw n H' es) H' v x
end
section
mutual
variable{d:Nat}{H aq aO H':Hp}{l p:Nat}{t w r:List Nat}{v:AV}
def Rh{c:Nat}{x:D}(L:Lx H l t p)(hl:t.length<=1000000)(h:t.drop p=c::w++r)(hs:hZ r)(hc:HK c)(hw:∀x∈c::w,x<65)(hw':sa (c::w)=true)(hm:c::w≠ [45])(hd:c::w≠ [46])(hw1:(c::w).length<=1000000)
  (hp:MR (c::w) x):∃k v H',aP (d+20) H 91 [.ref l] (.ref k,H')/\Tk H' k El v p (p+(c::w).length:Nat)/\Lx H' l t (p+(c::w).length)/\Keep (·≠l) H H'/\∀n es,gI (Nw n H' es) H' v x:=by
 refine aL (Ue (d:=d+18) (H:=H) hw hw1) λaq e1 K1=>?_;have L1:=L.keep K1;refine fy (hp (d:=d) (H:=aq)) λv aO e2 hv K2 hr=>?_;have L2:=L1.keep K2;refine fy (JV (d:=d+17) (w:=El) (v:=v) (e:=p+(c::w).length) L2) λk H' e3 T L3 K3=>?_;refine iR k v H' (bx (F:=MY) rfl rfl rfl (uw L hl h hs hw' hd e1 (ss:= []) (ie (mv (bV rfl ao) (Uc hc hm hw1)) (ie (uy (mv (ak (ah rfl) ao) (Ub hc hw1))) (fx (gC (ah rfl) L1 rfl rfl rfl (ak az (ak (gC (ah rfl) L1 rfl rfl rfl (ak (ah rfl) (ak (ah rfl) ao)) (T5 L1 e2 hv)) (ak (ah rfl) ao))) e3)))))) T L3 ((K1.weak λzz zy=>trivial).trans ((K2.weak λzz zy=>trivial).trans K3)) (λn es=>(hr (max n (l+1)) es).move K3 (iD.ne L2 (al (cI l) (lT _ _)) rfl) .refl (iL _ _))
end
end
mutual
structure NumW(w:List Nat):Prop where
 hd:∃c w',w=c::w'/\HK c
 lt:∀x∈w,x<65
 wd:sa w=true
 nm:w≠ [45]
 nd:w≠ [46]
 le:w.length<=1000
abbrev Lb(c:Nat):Prop:=rq c\/c=45\/c=47
def Bn{c:Nat}(h:Lb c):c<65/\(!p6.contains c && !Cj.contains c)=true:=by
 have t:∀c<58,45<=c->c≠46->c<65/\(!p6.contains c && !Cj.contains c)=true:=by decide
 cases h using cV with
 | inl h=>exact t c h.2 (aj (by decide) h.1) (Ne.symm (j4 h (by decide)))
 | inr h=>cases h using cV with
  | inl h=>exact t c (by erw [h];decide) (by erw [h];decide) (by erw [h];decide)
  | inr h=>exact t c (by erw [h];decide) (by erw [h];decide) (by erw [h];decide)
def Bm{c:Nat}{w:List Nat}(h:∀x∈c::w,Lb x)(hc:HK c)(hn:c=45->w≠ [])(hl:(c::w).length<=1000):NumW (c::w):=
 ⟨⟨c,w,rfl,hc⟩,λx m=>(Bn (h x m)).1,aS.mpr λx m=>(Bn (h x m)).2,λe=>hn (dB e).1 (dB e).2,λe=>by
  have e1:=(dB e).1
  cases hc using cV with
  | inl hc=>exact j4 hc (by decide) e1.symm
  | inr hc=>rw[e1]at hc;exact absurd hc (by decide),hl⟩
def xE{i:Int}(hi:i.natAbs<=1000)(hu:∀c∈u,Lb c)(hl:u.length<=900):NumW (dG i++u):=by
 cases i using iu with
 | ofNat n=>
  refine vp (jK (show n<=1000 from hi)) λh1 h2 h3 h4=>?_;show NumW (bQ n++u);cases hn:bQ n with
  | nil=>exact absurd hn h2
  | cons c w=>
   rw[hn]at h1 h3;refine Bm (λx m=>?_) (.inl (h1 c bj)) (λe=>absurd e (Ne.symm (j4 (h1 c bj) (by decide)))) ?_
   ·exact(dy.mp (show x∈(c::w)++u from m)).elim (λm=> .inl (h1 x m)) (hu x)
   ·show((c::w)++u).length<=_
    erw [af];exact(bE (aJ bf ay) (aG 1000) [(ay,aG 900),(bf,aG 4)] aR hl h3)
 | negSucc n=>
  refine vp (jK (show n+1<=1000 from hi)) λh1 h2 h3 h4=>?_;show NumW (45::(bQ (n+1)++u));refine Bm (λx m=>?_) (.inr rfl) (λzz e=>h2 (q6.mp e).1) ?_
  ·exact(aQ.mp m).elim (λe=> .inr (.inl e)) λm=>(dy.mp m).elim (λm=> .inl (h1 x m)) (hu x)
  ·erw [aI,af];exact(bE (eS (aJ ai ay)) (aG 1000) [(ay,aG 900),(ai,aG 4)] aR hl h3)
def zG:(mY.all λr=>match fP r.1 r.2 with
 | c::w=>(decide (48<=c/\c<58) || decide (c=45)) && ((c::w).all λx=>decide (x<65)) && sa (c::w) && !decide (c::w= [45]) && !decide (c::w= [46]) && decide ((c::w).length<=1000)
 | []=>false)=true:=by decide+kernel
def uJ{m e:Int}(h:(m,e)∈mY):NumW (fP m e):=by
 have q:=aS.mp zG (m,e) h;have q':(match fP m e with
 | c::w=>(decide (48<=c/\c<58) || decide (c=45)) && ((c::w).all λx=>decide (x<65)) && sa (c::w) && !decide (c::w= [45]) && !decide (c::w= [46]) && decide ((c::w).length<=1000)
 | []=>false)=true:=q
 cases hr:fP m e with
 | nil=>rw[hr]at q';exact nomatch q'
 | cons c w=>
  rw[hr]at q';have q5:=ag.mp q';have q4:=ag.mp q5.1;have q3:=ag.mp q4.1;have q2:=ag.mp q3.1;have q1:=ag.mp q2.1;exact⟨⟨c,w,rfl,(jG.mp q1.1).imp (λh=>(of_decide_eq_true h:48<=c/\c<58)) of_decide_eq_true⟩,λx m=>of_decide_eq_true (aS.mp q1.2 x m),q2.2,of_decide_eq_false (m5 q3.2),of_decide_eq_false (m5 q4.2),of_decide_eq_true q5.2⟩
def Hl{i:Int}(hi:i.natAbs<=1000):MR (dG i) (.int i):=fun{d H}=>by
 refine aL (Rk (d:=d+13) (H:=H) hi) λH' e K=>?_;exact d0 _ H' e rfl K (λzz zy=>rfl)
def Cr{p:Int}{q:Nat}(hp:p.natAbs<=1000)(h2:2<=q)(hq:q<=1000)(hg:yW q p.natAbs=1):MR (dG p++47::bQ q) (.ratio p q):=fun{d H}=>by
 refine dX (Rj (d:=d+13) (H:=H) hp h2 hq hg) λk H' e c K=>?_;exact d0 _ H' e rfl K (λzz zy=>(eF k rfl (jU c rfl (λzz zy h=>nomatch h)) c))
def Ej{m e:Int}(h:(m,e)∈mY):MR (fP m e) (.real m e):=fun{d H}=>by
 refine dX (Rl (D:=d+6) (H:=H) h) λk H' g c K=>?_;rw[show 12+(d+6)=d+18 from by exact dn ..]at g;exact d0 _ H' g rfl K (λzz zy=>(eF k rfl (jU c rfl (λzz zy h=>nomatch h)) c))
def pC{p q:Int}(h2:2<=q)(hq:q<10)(hk:∃k:Int,-10<=k/\k<10/\p=q*k+1):∃n:Nat,q=n/\2<=n/\n<=1000/\p.natAbs<=1000/\yW n p.natAbs=1:=by
 have t:∀n:Nat,n<10->2<=n->∀j:Nat,j<20->((n:Int)*((j:Int)-10)+1).natAbs<=1000/\yW n ((n:Int)*((j:Int)-10)+1).natAbs=1:=by decide+kernel
 refine dq hk λk k1 k2 xq1=>?_;subst xq1;obtain⟨n,rfl⟩:∃n:Nat,q=n:=⟨q.toNat,by exact(jS (eB [_] [_] 0 (.iv 0) (.ic ai) (.hz (.iv 0) (.ic ai) .ho) aR (wR (bU (eB [_] [] 0 (.ik 0) (.iv 0) (.hz (.ik 2) (.iv 0) .ho) aR h2)))) (eB [_] [_] 0 (.ic ai) (.iv 0) (.hz (.ic ai) (.iv 0) .ho) aR (wU (bU (eB [_] [] 0 (.ik 0) (.iv 0) (.hz (.ik 2) (.iv 0) .ho) aR h2)))))⟩;obtain⟨j,hj⟩:∃j:Nat,k=(j:Int)-10:=⟨(k+10).toNat,by exact(jS (eB [_] [_] 0 (.iv 0) (.is (.ic ai) (.ik 10)) (.hz (.ip (.iv 0) (.ik 10)) (.ic ai) .ho) (by kernel_rfl) (wR (bU (eB [_] [] 0 (.ik 0) (.ip (.iv 0) (.ik 10)) (.hz (.ik (-10)) (.iv 0) .ho) (by kernel_rfl) k1)))) (eB [_] [_] 0 (.is (.ic ai) (.ik 10)) (.iv 0) (.hz (.ic ai) (.ip (.iv 0) (.ik 10)) .ho) (by kernel_rfl) (wU (bU (eB [_] [] 0 (.ik 0) (.ip (.iv 0) (.ik 10)) (.hz (.ik (-10)) (.iv 0) .ho) (by kernel_rfl) k1)))))⟩;have:=t n (by exact(bO.mp (eB [] [_] 0 (.ic bf) (.ic (aG 10)) (.hz (.ip (.ic ai) (.ik 1)) (.ik 10) .ho) aR hq))) (by exact(bO.mp (eB [] [_] 0 (.ic (aG 2)) (.ic ai) (.hz (.ik 2) (.ic ai) .ho) aR h2))) j (by exact(bO.mp (eB [_] [_] 0 (.ic bf) (.ic (aG 20)) (.hz (.is (.ic ai) (.ik 10)) (.iv 0) (.hz (.ip (.iv 0) (.ik 1)) (.ik 10) .ho)) aR (wR hj) k2)))
 erw [hj]
 exact QH n rfl (by exact(bO.mp (eB [] [_] 0 (.ic (aG 2)) (.ic ai) (.hz (.ik 2) (.ic ai) .ho) aR h2))) (by exact(bO.mp (eB [] [_] 0 (.ic ai) (.ic (aG 1000)) (.hz (.ip (.ic ai) (.ik 1)) (.ik 10) .ho) aR hq))) this.1 this.2
end
section
mutual
variable{d:Nat}{H aq aO H':Hp}{l p:Nat}{t w r:List Nat}{v:AV}
def Rf{x:D}(L:Lx H l t p)(hl:t.length<=1000000)(h:t.drop p=w++r)(hs:hZ r)(N:NumW w)(hp:MR w x):∃k v H',aP (d+20) H 91 [.ref l] (.ref k,H')/\Tk H' k El v p (p+w.length:Nat)/\Lx H' l t (p+w.length)/\Keep (·≠l) H H'/\∀n es,gI (Nw n H' es) H' v x:=by
 obtain⟨xq2,h1,h2,h3,h4,h5⟩:=N;refine gy xq2 λc w' xq3 hc=>?_;subst xq3;exact Rh L hl h hs hc h1 h2 h3 h4 (aj h5 (ab rfl)) hp
end
end
mutual
abbrev At(t:List Nat)(p:Nat)(r:List Nat):Prop:=t.drop p=r/\p<=t.length
end
section
mutual
variable{t w r:List Nat}{p c:Nat}
def At.len(h:At t p r):p+r.length=t.length:=by
 have q:=congrArg je h.1;rw[d6]at q
 erw [<- q]
 exact Nat.add_sub_cancel' h.2
def At.app(h:At t p (w++r)):At t (p+w.length) r:=⟨CW h.1,by have:=h.len;rw[af]at this;exact(gU (aJ ai ay) bF [(aJ ai (aJ ay cP),bF)] aR (pJ this))⟩
def At.cons(h:At t p (c::r)):At t (p+1) r:=At.app (w:= [c]) h
def At.nil(h:At t p []):p=t.length:=h.len
def At.lt(h:At t p (c::r)):p<t.length:=(aT.mp (nQ h.1)).1
def Be{s:List Nat}:∀{u:List Nat},(∀x∈u,x≠c)->gf c (u++c::s)=some u.length
 | [],_=>by
  show(match aW c c with | true=>some 0 | false=>_)=_
  erw [(show aW c c=true from fV c)];rfl
 | x::u,h=>by
  show(match aW x c with | true=>some 0 | false=>(gf c (u++c::s)).map (· +1))=_
  erw [(show aW x c=false from gM.mpr λe=>h x bj (aV e)),(Be (u:=u) λy m=>h y (bN _ m))]
  rfl
end
end
mutual
noncomputable abbrev nV:List Nat:= [32,10,9,13,12]
class inductive Sk:List Nat->List Nat->Prop
 | blank {c:Nat} {s r:List Nat}:nV.contains c=true->c≠59->Sk s r->Sk (c::s) r
 | line {u s r:List Nat}:(∀x∈u,x≠10)->Sk (10::s) r->Sk (59::(u++10::s)) r
 | last {u:List Nat}:(∀x∈u,x≠10)->Sk (59::u) []
 | stop {c:Nat} {s:List Nat}:nV.contains c=false->c≠59->Sk (c::s) (c::s)
 | nil:Sk [] []
noncomputable abbrev A0:List S:= [(.aS (.v 1) (.idx (.aT (.v 0) 13) (.aT (.v 0) 26))),(.ite (.j .eq (.v 1) (.lit (.str [59]))) [(.aS (.v 2) (.meth (.aT (.v 0) 13) 4 [(.lit (.str [10])),(.aT (.v 0) 26)])),(.aS (.aT (.v 0) 26) (.ife (.j .lt (.v 2) (.lit (.int 0))) (.bi .len [(.aT (.v 0) 13)]) (.v 2)))] [(.ite (.j .isin (.v 1) (.lit (.str nV))) [(.aS (.aT (.v 0) 26) (.o .add (.aT (.v 0) 26) (.lit (.int 1))))] [.retn])])]
noncomputable abbrev DU:E:= .j .lt (.aT (.v 0) 26) (.bi .len [(.aT (.v 0) 13)])
end
section
mutual
variable{d:Nat}{H H':Hp}{l p:Nat}{t s r u:List Nat}{c:Nat}{x1 x2:Option AV}
def Lx.set{q:Nat}(L:Lx H l t p):Lx (H.set l (.n 21 [(13, .str t),(42, .int 53),(26, .int q),(43, .bool true)])) l t q:=cO (bw L)
def i8(L:Lx H l t p)(hl:t.length<=1000000){ls:Ls}(h0:ls[0]? =some (some (.ref l))):Re d ls H (.bi .len [(.aT (.v 0) 13)]) (.int t.length,H):=eH (ak (c9 (ah h0) L rfl rfl) ao) (len_str hl)
def vG(L:Lx H l t p)(hl:t.length<=1000000)(a:At t p (c::s)):Rt d [some (.ref l),x1,x2,none,none] H DU (true,H):=gN (cB rfl L rfl rfl) (i8 L hl rfl) (dT (fW.mpr a.lt))
def DT(L:Lx H l t p)(hl:t.length<=1000000)(a:At t p []):Rt d [some (.ref l),x1,x2,none,none] H DU (false,H):=gN (cB rfl L rfl rfl) (i8 L hl rfl) (dF (by erw [a.nil];exact o6 _))
def zh(L:Lx H l t p)(hl:t.length<=1000000)(a:At t p (c::s)):Re d [some (.ref l),x1,x2,none,none] H (.idx (.aT (.v 0) 13) (.aT (.v 0) 26)) (.str [c],H):=dC (cB rfl L rfl rfl) (cB rfl L rfl rfl) (ja (nQ a.1) hl)
def KE(L:Lx H l t p)(hl:t.length<=1000000)(a:At t p (c::s))(hc:nV.contains c=true)(hn:c≠59):gH d [some (.ref l),x1,x2,none,none] H A0 (.next,[some (.ref l),some (.str [c]),x2,none,none],H.set l (.n 21 [(13, .str t),(42, .int 53),(26, .int (p+1:Nat)),(43, .bool true)])):=
 cK (zh L hl a) rfl (aB (cU (cS rfl (dE λe=>hn (dB e).1)) (aB (ff (cS rfl (jI hc)) (lP (bS (cB rfl L rfl rfl) az rfl) (jC (ah rfl) L rfl rfl) ba)) ba)) ba)
def KD(L:Lx H l t p)(hl:t.length<=1000000)(a:At t p (c::s))(hc:nV.contains c=false)(hn:c≠59):gH d [some (.ref l),x1,x2,none,none] H A0 (.ret .none,[some (.ref l),some (.str [c]),x2,none,none],H):=
 cK (zh L hl a) rfl (RZ (cS rfl (dE λe=>hn (dB e).1)) (RZ (gE rfl (dw (ah rfl) az (jI hc))) (eP KG)))
def DS(L:Lx H l t p)(hl:t.length<=1000000)(a:At t p (59::u)){z q:Int}(hz:pW (gf 10 (59::u)) p=z)(hq:(z<0/\q=t.length)\/(¬ z<0/\q=z)):gH d [some (.ref l),x1,x2,none,none] H A0 (.next,[some (.ref l),some (.str [59]),some (.int z),none,none],H.set l (.n 21 [(13, .str t),(42, .int 53),(26, .int q),(43, .bool true)])):=
 cK (zh L hl a) rfl (aB (ff (cS rfl (gd rfl)) (cK (oR (cB rfl L rfl rfl) rfl (gR (ak (c9 (ah rfl) L rfl rfl) ao)) (show some (AV.int (pW (gf 10 (t.drop p)) p),H)=_ by erw [a.1,hz];rfl)) rfl (lP (show Re d [some (.ref l),some (.str [59]),some (.int z),none,none] H _ (.int q,H)from by
  cases hq using cV with
  | inl h=>erw [h.2];exact eW (gE rfl (dw (ah rfl) az (dT h.1))) (i8 L hl rfl)
  | inr h=>erw [h.2];exact fz (gE rfl (dw (ah rfl) az (dF h.1))) (ah rfl)) (jC (ah rfl) L rfl rfl) ba))) ba)
set_option tactic.hygienic true in
theorem Cd(hl:t.length<=1000000)(k:Sk s r):∀{H:Hp} {p:Nat} {x1 x2:Option AV},Lx H l t p->At t p s->∃fl ls' H' q,Rs d [some (.ref l),x1,x2,none,none] H (.while DU A0) (fl,ls',H')/\(fl= .next\/fl= .ret .none)/\Lx H' l t q/\At t q r/\Keep (·≠l) H H':=by
 induction k with
 | blank hc hn k ih=>
  intro H p x1 x2 L a;obtain⟨fl,ls',H',q,e,hf,L',a',K⟩:=ih L.set a.cons;exact tA fl ls' H' q (eQ (vG L hl a) (KE L hl a hc hn) e) hf L' a' ((Keep.set λo=>o rfl).trans K)
 | line hu k ih=>
  rename_i u s r
  intro H p x1 x2 L a;have f:pW (gf 10 (59::(u++10::s))) p=((p+(u.length+1):Nat):Int):=by
   erw [(show gf 10 (59::(u++10::s))=_ from Be (s:=s) (c:=10) (u:=59::u) (λx m=>(aQ.mp m).elim (λe=>by erw [e];decide) (hu x)))];rfl
  obtain⟨fl,ls',H',q,e,hf,L',a',K⟩:=ih (L.set (q:=p+(u.length+1))) (At.app (w:=59::u) a);exact tA fl ls' H' q (eQ (vG L hl a) (DS L hl a f (.inr ⟨jf.mpr (fE _),rfl⟩)) e) hf L' a' ((Keep.set λo=>o rfl).trans K)
 | last hu=>
  rename_i u
  intro H p x1 x2 L a;have f:pW (gf 10 (59::u)) p= -1:=by
   erw [(zJ (λx m=>(aQ.mp m).elim (λe=>by erw [e];decide) (hu x)))];rfl
  have a':At t t.length []:=⟨List.drop_length,aw _⟩;exact tA _ _ _ _ (eQ (vG L hl a) (DS L hl a f (.inl ⟨by decide,rfl⟩)) (eR (DT (L.set (q:=t.length)) hl a'))) (.inl rfl) L.set a' (Keep.set λo=>o rfl)
 | stop hc hn=>
  intro H p x1 x2 L a;exact tA _ _ _ _ (lZ (vG L hl a) (KD L hl a hc hn)) (.inr rfl) L a .refl
 | nil=>
  intro H p x1 x2 L a;exact tA _ _ _ _ (eR (DT L hl a)) (.inl rfl) L a .refl
def T8(hl:t.length<=1000000)(k:Sk s r)(L:Lx H l t p)(a:At t p s):∃H' q,aP (d+1) H 86 [.ref l] (.none,H')/\Lx H' l t q/\At t q r/\Keep (·≠l) H H':=by
 refine w1 (Cd (d:=d) (x1:=none) (x2:=none) hl k L a) λfl ls' H' q e hf L' a' K=>?_;refine d0 H' q ?_ L' a' K
 cases hf using cV with
 | inl hf=>rw[hf]at e;exact fB (F:=Q0) rfl rfl rfl (aB e ba)
 | inr hf=>rw[hf]at e;exact bx (F:=Q0) rfl rfl rfl (eP e)
end
end
mutual
noncomputable abbrev Qv:Type:=Hp->Hp->AV->Prop
abbrev J6:Qv:=λzz zy zx=>True
abbrev Mp(x:D):Qv:=λH H' v=> ∀n es,n<=H.length->gI (Nw n H' es) H' v x
abbrev Ts(s:List Nat):Qv:=λzz zy v=>v= .str s
abbrev Tok(s:List Nat)(w:List Nat)(Q:Qv)(r:List Nat):Prop:= ∀{d:Nat} {H:Hp} {l q:Nat} {t:List Nat},Lx H l t q->t.length<=1000000->At t q s->∃k v a e q' ls' H',gH (d+21) [some (.ref l),none,none,none,none,none] H (JL.body.drop 1) (.ret (.ref k),ls',H')/\Tk H' k w v a e/\Lx H' l t q'/\At t q' r/\Keep (·≠l) H H'/\Q H H' v
end
section
mutual
variable{d:Nat}{H H':Hp}{l p q:Nat}{t s s' r u w:List Nat}{c:Nat}{Q:Qv}
def GC:Tok [] [101,110,100] J6 []:=fun{d H l q t} L hl a=>(ye _ _ q q q _ _ (cK (cB rfl L rfl rfl) rfl (mu (gN (ah rfl) (i8 L hl rfl) (dT (congrArg Int.ofNat a.nil))) (fx (gG (ak az (ak az (ak (ah rfl) (ak (ah rfl) ao)))) rfl S8)))) aU (bC L) a Keep.app trivial)
def Jh{o:Fl×Ls×Hp}(L:Lx H l t q)(hl:t.length<=1000000)(a:At t q (c::s))(k:gH d [some (.ref l),some (.int q),some (.str [c]),none,none,none] H (JL.body.drop 4) o):gH d [some (.ref l),none,none,none,none,none] H (JL.body.drop 1) o:=
 cK (cB rfl L rfl rfl) rfl (ie (gN (ah rfl) (i8 L hl rfl) (dF λe=>absurd (o5 e) (aC a.lt))) (cK (dC (c9 (ah rfl) L rfl rfl) (ah rfl) (ja (nQ a.1) hl)) rfl k))
def lX(hc:([40,41,39,96]:List Nat).contains c=true):Tok (c::r) [c] J6 r:=fun{d H l q t} L hl a=>by
 refine fy (JV (d:=d+19) (w:= [c]) (v:= .none) (e:=q+1) L) λk H' e3 T L3 K3=>?_;exact ye k _ _ _ _ _ _ (Jh L hl a (mu (cS rfl (jI hc)) (fx (i4 rfl L rfl rfl rfl (ak (ah rfl) (ak az (ak (bS (ah rfl) az rfl) ao))) e3)))) T L3 a.cons K3 trivial
abbrev Jd(c:Nat):Bool:= !([40,41,39,96]:List Nat).contains c && !decide (([c]:List Nat)= [44])
def DE{o:Fl×Ls×Hp}(L:Lx H l t q)(hl:t.length<=1000000)(a:At t q (c::s))(hc:Jd c=true)(k:gH d [some (.ref l),some (.int q),some (.str [c]),none,none,none] H (JL.body.drop 6) o):gH d [some (.ref l),none,none,none,none,none] H (JL.body.drop 1) o:=by
 have h:=ag.mp hc;exact Jh L hl a (ie (cS rfl (jI (m5 h.1))) (ie (cS rfl (dE (of_decide_eq_false (m5 h.2)))) k))
abbrev AR(c:Nat):Bool:=Jd c && !decide (([c]:List Nat)= [34]) && !decide (([c]:List Nat)= [35])
def DD{v:AV}(L:Lx H l t q)(hl:t.length<=1000000)(a:At t q (c::s))(hc:AR c=true)(k:aP d H 91 [.ref l] (v,H')):∃ls',gH d [some (.ref l),none,none,none,none,none] H (JL.body.drop 1) (.ret v,ls',H'):=by
 have h:=ag.mp hc;have h1:=ag.mp h.1;exact⟨_,DE L hl a h1.1 (ie (cS rfl (dE (of_decide_eq_false (m5 h1.2)))) (ie (cS rfl (dE (of_decide_eq_false (m5 h.2)))) (fx (gC (ah rfl) L rfl rfl rfl ao k))))⟩
def Hr(h:HK c):AR c=true:=by
 have t:∀c<58,45<=c->c≠46->c≠47->AR c=true:=by decide+kernel
 cases h using cV with
 | inl h=>exact t c h.2 (aj (by decide) h.1) (Ne.symm (j4 h (by decide))) (Ne.symm (j4 h (by decide)))
 | inr h=>exact t c (by erw [h];decide) (by erw [h];decide) (by erw [h];decide) (by erw [h];decide)
abbrev headD:List Nat->Bool
 | c::_=>AR c
 | []=>false
def Gq:(names.all headD)=true:=by decide+kernel
def DA(hn:w∈names)(hs:hZ r):Tok (w++r) vw (Ts w) r:=fun{d H l q t} L hl a=>by
 refine fy (Rg (d:=d+1) L hl a.1 hs hn) λk H' e T L' K=>?_;have hw:headD w=true:=aS.mp Gq w hn
 cases w using au with
 | nil=>exact nomatch hw
 | cons c w=>
  obtain⟨ls',e'⟩:=DD L hl a hw e;exact ye k _ _ _ _ ls' H' e' T L' a.app K rfl
def GB{x:D}(N:NumW w)(hp:MR w x)(hs:hZ r):Tok (w++r) El (Mp x) r:=fun{d H l q t} L hl a=>by
 refine jT (Rf (d:=d+1) L hl a.1 hs N hp) λk v H' e T L' K rp=>?_;obtain⟨xq1,_⟩:=N;refine gy xq1 λc w' xq2 hc=>?_;subst xq2;obtain⟨ls',e'⟩:=DD L hl a (Hr hc) e;exact ye k _ _ _ _ ls' H' e' T L' a.app K (λn es zz=>rp n es)
def Ri(L:Lx H l t p)(hl:t.length<=1000000)(h:t.drop p= [46]++r)(hs:hZ r):∃k H',aP (d+20) H 91 [.ref l] (.ref k,H')/\Tk H' k [46] .none p (p+1:Nat)/\Lx H' l t (p+1)/\Keep (·≠l) H H':=by
 refine fy (JV (d:=d+17) (w:= [46]) (v:= .none) (e:=p+1) L) λk H' e3 T L3 K3=>?_;exact d0 k H' (bx (F:=MY) rfl rfl rfl (cK (cB rfl L rfl rfl) rfl (cK (i4 rfl L rfl rfl rfl (ak (ah rfl) ao) (AQ (w:= [46]) L hl h hs rfl)) rfl (cK (jy (c9 (ah rfl) L rfl rfl) (ah rfl) (ah rfl) ((pA hl).trans (by erw [Aq h];rfl))) rfl (eP (ff (gE rfl (dw (ah rfl) az (gd rfl))) (eP (kH (gC (ah rfl) L rfl rfl rfl (ak az (ak az (ak (ah rfl) ao))) e3))))))))) T L3 K3
def GD(hs:hZ r):Tok (46::r) [46] J6 r:=fun{d H l q t} L hl a=>by
 refine fy (Ri (d:=d+1) L hl a.1 hs) λk H' e T L' K=>?_;obtain⟨ls',e'⟩:=DD L hl a rfl e;exact ye k _ _ _ _ ls' H' e' T L' a.cons K trivial
def T7(T:Tok s' w Q r)(k:Sk s s')(L:Lx H l t p)(hl:t.length<=1000000)(a:At t p s):∃k v a e q' bT H',aP (d+22) H 88 [.ref l] (.ref k,H')/\Tk H' k w v a e/\Lx H' l t q'/\At t q' r/\Keep (·≠l) H H'/\H.length<=bT.length/\Q bT H' v:=by
 refine fy (T8 (d:=d+20) hl k L a) λaq q e1 L1 a1 K1=>?_;refine Nb (T (d:=d) L1 hl a1) λk v b e q' ls' H' e2 T2 L2 a2 K2 h=>?_;exact Od k v b e q' aq H' (bx (F:=JL) rfl rfl rfl (uv (i4 rfl L rfl rfl rfl ao e1) e2)) T2 L2 a2 (K1.trans K2) K1.len h
end
end
mutual
noncomputable abbrev Md:List Nat:= [98,111,111,108,101,97,110]
noncomputable abbrev Fx:List Nat:= [99,104,97,114]
def Dp:(([40,116,102,92]:List Nat).all λc=>yF 8 [] 78 [.str [c]] (qS [c]))=true:=by decide+kernel
def Gr:yF 8 [] 83 [.str [115,112,97,99,101]] (qS [32])=true:=by decide+kernel
def Ki:yF 8 [] 83 [.str [110,101,119,108,105,110,101]] (qS [10])=true:=by decide+kernel
end
section
mutual
variable{d:Nat}{H H':Hp}{l p q:Nat}{t s s' r u w:List Nat}{c:Nat}{Q:Qv}
def zC(h:c∈([40,116,102,92]:List Nat)):∃H',aP (d+20) H 78 [.str [c]] (.str [c],H')/\Keep all H H':=by
 refine dX (lH (H:=H) (D:=d+12) (aS.mp Dp c h) rfl) λv H' hp e K=>?_;rw[show 8+(d+12)=d+20 from by exact dn ..]at e;cases uG hp
 exact bH H' e K
def KF(hn:w= [115,112,97,99,101]/\c=32\/w= [110,101,119,108,105,110,101]/\c=10):∃H',aP (d+19) H 83 [.str w] (.str [c],H')/\Keep all H H':=by
 have k:∃v H',qS [c] v=true/\aP (8+(d+11)) H 83 [.str w] (sh H.length v,H')/\Keep all H H':=by
  cases hn using cV with
  | inl h=>erw [h.1,h.2];exact lH Gr rfl
  | inr h=>erw [h.1,h.2];exact lH Ki rfl
 refine dX k λv H' hp e K=>?_;rw[show 8+(d+11)=d+19 from by exact dn ..]at e;cases uG hp
 exact bH H' e K
def qv{j:Nat}(hl:t.length<=1000000)(a:At t p (w++r))(hj:j=p+w.length):iw (.str t) (some (.int p)) (some (.int j)) H=some (.str w,H):=by
 erw [pA hl,hj,Aq a.1];rfl
def km{a b:Int}(h:a≠b):iI H .eq (.int a) (.int b)=some false:=dF h
def Ho{a b:Nat}(h:a≠b):iI H .eq (.int a) (.int b)=some false:=dF λe=>h (o5 e)
def DY{aq:Hp}{o:Fl×Ls×Hp}(L:Lx H l t q)(hl:t.length<=1000000)(a:At t q (35::c::s))(e1:aP (d+20) H 78 [.str [c]] (.str [c],aq))(k:gH (d+20) [some (.ref l),some (.int q),some (.str [c]),none,none,none] aq (MX.body.drop 2) o):gH (d+20) [some (.ref l),none,none,none,none,none] H MX.body o:=
 cK (cB rfl L rfl rfl) rfl (cK (bg (ak (jy (cB rfl L rfl rfl) (bS (ah rfl) az rfl) (bS (ah rfl) az rfl) (qv (p:=q+1) (w:= [c]) (j:=q+2) hl a.cons rfl)) ao) e1) rfl k)
def vt(h:∀{d:Nat} {H:Hp} {l q:Nat} {t:List Nat},Lx H l t q->t.length<=1000000->At t q (35::s)->∃k v a e q' H',aP (d+21) H 93 [.ref l] (.ref k,H')/\Tk H' k w v a e/\Lx H' l t q'/\At t q' r/\Keep (·≠l) H H'/\Q H H' v):Tok (35::s) w Q r:=fun{d H l q t} L hl a=>by
 refine P0 (h (d:=d) L hl a) λk v b e q' H' e1 T L' a' K hq=>?_;exact ye k v b e q' _ H' (DE L hl a rfl (ie (cS rfl (dE (λe=>nomatch e))) (mu (cS rfl (gd rfl)) (fx (gC (ah rfl) L rfl rfl rfl ao e1))))) T L' a' K hq
def GA:Tok (35::40::r) [35,40] J6 r:=vt fun{d H l q t} L hl a=>by
 refine aL (zC (d:=d) (H:=H) (c:=40) (by decide)) λaq e1 K1=>?_;have L1:=L.keep K1;refine fy (JV (d:=d+18) (w:= [35,40]) (v:= .none) (e:=q+2) L1) λk H' e3 T L3 K3=>?_;exact LA k _ _ _ _ H' (bx (F:=MX) rfl rfl rfl (DY L hl a e1 (mu (cS rfl (gd rfl)) (fx (i4 rfl L1 rfl rfl rfl (ak az (ak az (ak (bS (ah rfl) az rfl) ao))) e3))))) T L3 a.cons.cons ((K1.weak λzz zy=>trivial).trans K3) trivial
def DC{b:Bool}(hc:c=cond b 116 102):Tok (35::c::r) Md (Mp (.bool b)) r:=vt fun{d H l q t} L hl a=>by
 refine aL (zC (d:=d) (H:=H) (c:=c) (by erw [hc];induction b using aE <;> decide)) λaq e1 K1=>?_;have L1:=L.keep K1;refine fy (JV (d:=d+18) (w:=Md) (v:= .bool b) (e:=q+2) L1) λk H' e3 T L3 K3=>?_;have t1:iI aq .eq (.str [c]) (.str [116])=some b:=by erw [hc];induction b using aE <;> rfl
 have t2:iI aq .eq (.str [c]) (.str [102])=some (!b):=by erw [hc];induction b using aE <;> rfl
 have t0:Rt (d+20) [some (.ref l),some (.int q),some (.str [c]),none,none,none] aq (.or (.j .eq (.v 2) (.lit (.str [116]))) (.j .eq (.v 2) (.lit (.str [102])))) (true,aq):=by
  cases b using aE with
  | true=>exact zb (cS rfl t1)
  | false=>exact iP (cS rfl t1) (cS rfl t2)
 exact LA k _ _ _ _ H' (bx (F:=MX) rfl rfl rfl (DY L hl a e1 (ie (cS rfl (dE λe=>by rw[hc]at e;induction b using aE <;> exact nomatch e)) (mu t0 (fx (gC (ah rfl) L1 rfl rfl rfl (ak az (ak (dw (ah rfl) az t1) (ak (bS (ah rfl) az rfl) ao))) e3)))))) T L3 a.cons.cons ((K1.weak λzz zy=>trivial).trans K3) (λzz zy zx=>rfl)
noncomputable abbrev Qd:S:=(.while (.and (.j .lt (.v 2) (.bi .len [(.aT (.v 0) 13)])) (.j .notin (.idx (.aT (.v 0) 13) (.v 2)) (.lit (.str p6)))) [(.aS (.v 2) (.o .add (.v 2) (.lit (.int 1))))])
def xl{x1:Option AV}(L:Lx H l t p)(hl:t.length<=1000000)(hr:hZ r):∀(w:List Nat) (a:Nat),(∀c∈w,p6.contains c=false)->At t a (w++r)->
  Rs d [some (.ref l),x1,some (.int a),none,none,none,none] H Qd (.next,[some (.ref l),x1,some (.int (a+w.length:Nat)),none,none,none,none],H)
 | [],a,_,ha=>by
  have ln:Re d [some (.ref l),x1,some (.int a),none,none,none,none] H (.bi .len [(.aT (.v 0) 13)]) (.int t.length,H):=i8 L hl rfl
  cases r using au with
  | nil=>exact eR (pj (gN (ah rfl) ln (dF (by erw [At.nil ha];exact o6 _))))
  | cons c r=>exact eR (mx (gN (ah rfl) ln (dT (fW.mpr (At.lt ha)))) (gN (dC (cB rfl L rfl rfl) (ah rfl) (ja (nQ ha.1) hl)) az (pH (hr c rfl))))
 | c::w,a,hw,ha=>by
  have ln:Re d [some (.ref l),x1,some (.int a),none,none,none,none] H (.bi .len [(.aT (.v 0) 13)]) (.int t.length,H):=i8 L hl rfl;have e:=xl (x1:=x1) L hl hr w (a+1) (λc m=>hw c (bN _ m)) (At.cons ha);rw[f6,dn 1 w.length]at e;exact eQ (mx (gN (ah rfl) ln (dT (fW.mpr (At.lt ha)))) (gN (dC (cB rfl L rfl rfl) (ah rfl) (ja (nQ ha.1) hl)) az (pH (hw c bj)))) (cK (bS (ah rfl) az rfl) rfl ba) e
def Tn{v:AV}:aP (d+1) (H++ [.n 4 []]) 11 [.ref H.length,v] (.none,H++ [.n 4 [(18,v)]]):=fB (F:=SW) rfl rfl rfl (aB (dS rfl (ah rfl) rfl rfl) ba)
def TZ{c0:Nat}{w:List Nat}(L:Lx H l t q)(hl:t.length<=1000000)(a:At t q (35::92::c0::w++r))(hr:hZ r)(hw:∀c∈w,p6.contains c=false)(hn:(w= []/\c=c0)\/(w≠ []/\(c0::w= [115,112,97,99,101]/\c=32\/c0::w= [110,101,119,108,105,110,101]/\c=10))):∃k j e H',aP (d+20) H 94 [.ref l] (.ref k,H')/\Tk H' k Fx (.ref j) q e/\Lx H' l t (q+3+w.length)/\Keep (·≠l) H H'/\Hk H' j (.n 4 [(18, .int c)]):=by
 have a3:At t (q+3) (w++r):=a.cons.cons.cons;have a2:At t (q+2) ((c0::w)++r):=a.cons.cons;have hw1:(c0::w).length<=1000000:=aj (by have:=a2.len;rw[af]at this;exact(gU bf ay [((aJ (aJ bF (aG 2)) (aJ bf cP)),ay)] aR (pJ this))) hl;have k:∃aq,Re (d+19) [some (.ref l),some (.int q),some (.int (q+3+w.length:Nat)),some (.str (c0::w)),none,none,none] H (.ife (.j .eq (.bi .len [(.v 3)]) (.lit (.int 1))) (.v 3) (.call 83 [(.v 3)])) (.str [c],aq)/\Keep all H aq:=by
  cases hn using cV with
  | inl h=>
   obtain⟨xq1,xq2⟩:=h;subst xq1;subst xq2
   exact bH H (eW (gN (eH (bV rfl ao) (len_str hw1)) az (dT rfl)) (ah rfl)) .refl
  | inr h=>
   refine aL (KF (d:=d) (H:=H) h.2) λaq e K=>?_
   exact bH aq (fz (gN (eH (bV rfl ao) (len_str hw1)) az (dF (λe=>h.1 (BZ (qZ (o5 e)))))) (bg (bV rfl ao) e)) K
 refine aL k λaq e1 K1=>?_;have L1:=L.keep K1;have L2:Lx (aq++ [.n 4 [(18, .int c)]]) l t q:=bC L1;refine fy (JV (d:=d+17) (w:=Fx) (v:= .ref aq.length) (e:=q+3+w.length) L2) λk H' e3 T L3 K3=>?_;refine tA k _ _ H' (bx (F:=Si) rfl rfl rfl (cK (cB rfl L rfl rfl) rfl (ie (gN (bS (ah rfl) az rfl) (i8 L hl rfl) (Ho (a:=q+2) (aC (At.lt a2)))) (cK (bS (ah rfl) az rfl) rfl (aB (xl L hl hr w (q+3) hw a3) (aB (iT (jy (c9 (ah rfl) L rfl rfl) (bS (ah rfl) az rfl) (ah rfl) (qv (p:=q+2) (w:=c0::w) (j:=q+3+w.length) hl a2 (by erw [aI];exact(bI (bE (aJ (aJ ai (aG 3)) ay) (aJ (aJ ai (aG 2)) cN) [] aR) (bE (aJ (aJ ai (aG 2)) cN) (aJ (aJ ai (aG 3)) ay) [] aR))))) (eh rfl)) (aB (iT e1 (eh rfl)) (aB (cU (gE rfl (dw (ah rfl) az rfl)) ba) (eP (kH (gC (ah rfl) L1 rfl rfl rfl (ak az (ak (gG (ak (eH (ak (ah rfl) ao) rfl) ao) rfl Tn) (ak (ah rfl) ao))) e3))))))))))) T L3 ?_ ?_
 ·exact(K1.weak λzz zy=>trivial).trans (Keep.app.trans K3)
 ·exact K3.at_ _ _ (λe=>aZ aU L2 (λh=>nomatch h) e) aU
def DB(hr:hZ r):Tok (gZ c++r) Fx (Mp (.char c)) r:=by
 have go:∀c0 w,gZ c=35::92::c0::w->(∀c∈w,p6.contains c=false)->((w= []/\c=c0)\/(w≠ []/\(c0::w= [115,112,97,99,101]/\c=32\/c0::w= [110,101,119,108,105,110,101]/\c=10)))->Tok (gZ c++r) Fx (Mp (.char c)) r:=by
  intro c0 w hs hw hn
  rw[hs]
  exact vt fun{d H l q t} L hl a=>by
   refine aL (zC (d:=d) (H:=H) (c:=92) (by decide)) λaq e1 K1=>?_
   have L1:=L.keep K1
   refine w1 (TZ (d:=d) L1 hl a hr hw hn) λk j e H' e3 T L3 K3 hj=>?_
   refine LA k _ _ _ _ H' (bx (F:=MX) rfl rfl rfl (DY L hl a e1 (ie (cS rfl (dE (λe=>nomatch e))) (ie (iP (cS rfl (dE (λe=>nomatch e))) (cS rfl (dE (λe=>nomatch e)))) (mu (gE rfl (dw (ah rfl) az (gd rfl))) (eP (kH (gC (ah rfl) L1 rfl rfl rfl ao e3)))))))) T L3 ?_ ((K1.weak λzz zy=>trivial).trans K3) (λn es zz=>(eF j rfl (jU hj rfl (λzz zy h=>nomatch h)) hj))
   have:=At.app (w:=35::92::c0::w) a
   rw[show q+(35::92::c0::w).length=q+3+w.length from by erw [aI,aI,aI];exact(bI (bE (aJ ai (eS (eS cN))) (aJ (aJ ai (aG 3)) ay) [] aR) (bE (aJ (aJ ai (aG 3)) ay) (aJ ai (eS (eS cN))) [] aR))]at this
   exact this
 rcases Decidable.em (c=32)with h1 | h1
 ·exact fun{d H l q t}=>go 115 [112,97,99,101] (by erw [h1];rfl) (by decide) (.inr ⟨by decide, .inl ⟨rfl,h1⟩⟩)
 ·rcases Decidable.em (c=10)with h2 | h2
  ·exact fun{d H l q t}=>go 110 [101,119,108,105,110,101] (by erw [h2];rfl) (by decide) (.inr ⟨by decide, .inr ⟨rfl,h2⟩⟩)
  ·exact fun{d H l q t}=>go c [] (by unfold gZ;erw [if_neg h1,if_neg h2];rfl) (λzz m=>nomatch m) (.inl ⟨rfl,rfl⟩)
end
end
mutual
noncomputable abbrev DH:List Nat:= [115,116,114,105,110,103]
noncomputable abbrev HB:List S:= [(.ite (.j .ge (.v 3) (.bi .len [(.aT (.v 0) 13)])) [.fail] []),(.aS (.v 4) (.idx (.aT (.v 0) 13) (.v 3))),(.ite (.j .eq (.v 4) (.lit (.str [34]))) [(.ret (.meth (.v 0) 64 [(.lit (.str [115,116,114,105,110,103])),(.call 18 [(.meth (.lit (.str [])) 6 [(.v 2)])]),(.o .add (.v 3) (.lit (.int 1)))]))] []),(.ite (.j .eq (.v 4) (.lit (.str [92]))) [(.aS (.v 3) (.o .add (.v 3) (.lit (.int 1)))),(.aS (.v 4) (.slice (.aT (.v 0) 13) (some (.v 3)) (some (.o .add (.v 3) (.lit (.int 1)))))),(.ite (.j .eq (.v 4) (.lit (.str []))) [.fail] []),(.ite (.and (.j .ne (.v 4) (.lit (.str [34]))) (.j .ne (.v 4) (.lit (.str [92])))) [.fail] [])] []),(.expr (.meth (.v 2) 0 [(.v 4)])),(.aS (.v 3) (.o .add (.v 3) (.lit (.int 1))))]
end
section
mutual
variable{cs b:List Nat}{a:Nat}
variable{d:Nat}{H H':Hp}{l p q:Nat}{t s s' r u w:List Nat}{c:Nat}{Q:Qv}
def Tl{v:AV}:aP (d+1) (H++ [.n 5 []]) 12 [.ref H.length,v] (.none,H++ [.n 5 [(19,v)]]):=fB (F:=SV) rfl rfl rfl (aB (dS rfl (ah rfl) rfl rfl) ba)
def Uq(hl:cs.length<=1000000):aP (d+2) H 18 [.str cs] (.ref (H.length+1),H++ [.list (cs.map λc:Nat=> .int c)]++ [.n 5 [(19, .ref H.length)]]):=by
 have e:=tL (d:=d+1) (H:=H) (g:=λc=> .int c) (a:=(.bi .ord [(.v 1)])) (i:=1) cs [] [some (.str cs),none,none] (λc m ls H h1 h2 h3=>eH (ak (ah h3) ao) rfl) rfl (by show 0+_<=_;exact(cz (aJ (aG 0) ai) cX [(ai,cX)] aR hl));have e2:=bx (d:=d+1) (f:=18) (args:= [.str cs]) (F:=SS) rfl rfl rfl (fx (gG (ak (kY rfl (ah rfl) rfl e) ao) rfl Tl));rw[af]at e2;exact e2
def QM{b:Nat}(h:a<b):iI H .ge (.int a) (.int b)=some false:=dF (wN.mpr (fW.mpr h))
def GI{a:List Nat}(h:a≠b):iI H .ne (.str a) (.str b)=some true:=nT h
def nH{a:List Nat}(h:a=b):iI H .ne (.str a) (.str b)=some false:=nF h
noncomputable abbrev xM(us:List Nat):Cell:= .list (us.map λc=> .str [c])
def Ez{x1 x4:Option AV}{us:List Nat}(L:Lx H l t p)(hl:t.length<=1000000)(ha:At t a (c::s)){ss:List S}{o:Fl×Ls×Hp}
  (k:gH d [some (.ref l),x1,some (.ref H.length),some (.int a),some (.str [c]),none,none] (H++ [xM us]) (HB.drop 2) o):gH d [some (.ref l),x1,some (.ref H.length),some (.int a),x4,none,none] (H++ [xM us]) HB o:=
 have L1:Lx (H++ [xM us]) l t p:=bC L
 ie (gN (ah rfl) (i8 L1 hl rfl) (QM ha.lt)) (cK (dC (cB rfl L1 rfl rfl) (ah rfl) (ja (nQ ha.1) hl)) rfl k)
def s9{x1:Option AV}(L:Lx H l t q)(hl:t.length<=1000000):∀(cs us:List Nat) (a:Nat) (x4:Option AV),At t a (cA cs++34::r)->us.length+cs.length<=1000000->
  ∃k j e ls' H',Rs (d+2) [some (.ref l),x1,some (.ref H.length),some (.int a),x4,none,none] (H++ [xM us]) (.while (.lit (.bool true)) HB) (.ret (.ref k),ls',H')/\Tk H' k DH (.ref (j+1)) q e/\Lx H' l t (a+(cA cs).length+1)/\Keep (·≠l) H H'/\H.length<=j/\Hk H' j (.list ((us++cs).map λc:Nat=> .int c))/\Hk H' (j+1) (.n 5 [(19, .ref j)])
 | [],us,a,x4,ha,hu=>by
  have hus:us.length<=1000000:=aj (bu _ _) hu;have L1:Lx (H++ [xM us]) l t q:=bC L;have fl:(us.map λc=> [c]).flatten=us:=pU us;have j:=oU (d:=d+2) (ls:= [some (.ref l),x1,some (.ref H.length),some (.int a),some (.str [34]),none,none]) (a:= .v 2) (ah rfl) (aU (H:=H) (c:= .list ((us.map λc=> [c]).map .str))) (by erw [aK];exact hus) (by erw [fl];exact hus);rw[fl,iC]at j;have m:=Uq (d:=d) (H:=H++ [xM us]) hus;have L2:Lx (H++ [xM us]++ [.list (us.map λc:Nat=> .int c)]++ [.n 5 [(19, .ref (H++ [xM us]).length)]]) l t q:=bC (bC L1);refine fy (JV (d:=d) (w:=DH) (v:= .ref ((H++ [xM us]).length+1)) (e:=a+1) L2) λk H' e3 T L3 K3=>?_;refine EV k ((H++ [xM us]).length) _ _ H' (lZ (gE rfl az) (Ez (ss:= []) (us:=us) L hl ha (mu (cS rfl (gd rfl)) (fx (i4 rfl L1 rfl rfl rfl (ak az (ak (bg (ak j ao) m) (ak (bS (ah rfl) az rfl) ao))) e3))))) T L3 (Keep.app.trans (Keep.app.trans (Keep.app.trans K3))) (by erw [af];exact bu _ _) ?_ ?_
  ·erw [bq]
   exact K3.at_ _ _ (λe=>aZ (bC aU) L2 (λh=>nomatch h) e) (bC aU)
  ·have g:Hk (H++ [xM us]++ [Cell.list (us.map λc:Nat=> .int c)]++ [Cell.n 5 [(19, .ref (H++ [xM us]).length)]]) ((H++ [xM us]).length+1) (.n 5 [(19, .ref (H++ [xM us]).length)]):=yl;exact K3.at_ _ _ (λe=>aZ g L2 (λh=>nomatch h) e) g
 | c::cs,us,a,x4,ha,hu=>by
  have hus:us.length<=1000000:=aj (bu _ _) hu;have hu':(us++ [c]).length+cs.length<=1000000:=by erw [af];exact(f6 _ 1 _).symm ▸(dn cs.length 1 ▸hu)
  have app:∀(a:Nat),gH (d+2) [some (.ref l),x1,some (.ref H.length),some (.int a),some (.str [c]),none,none] (H++ [xM us]) (HB.drop 4) (.next,[some (.ref l),x1,some (.ref H.length),some (.int (a+1:Nat)),some (.str [c]),none,none],H++ [xM (us++ [c])]):=λa=>
   uv (ft (ah rfl) aU (ah rfl) aU (aM (by erw [aK];exact hus))) (cK (bS (ah rfl) az rfl) rfl (by
    erw [lC,(show(us.map λc=>AV.str [c])++ [.str [c]]=(us++ [c]).map λc=> .str [c]from by erw [bp];rfl)]
    exact ba));rcases Decidable.em (c=34\/c=92)with hc | hc
  ·have es:cA (c::cs)=92::c::cA cs:=if_pos hc;rw[es]at ha |-
   have ha1:At t (a+1) (c::(cA cs++34::r)):=At.cons ha;refine wZ (s9 (x1:=x1) L hl cs (us++ [c]) (a+1+1) (some (.str [c])) ha1.cons hu') λk j e ls' H' hw T L' K hj h1 h2=>?_;rw[aA]at h1;have L1:Lx (H++ [xM us]) l t q:=bC L;refine EV k j e ls' H' (eQ (gE rfl az) (Ez (ss:= []) (us:=us) L hl ha (ie (cS rfl (dE (λe=>nomatch e))) (aB (ff (cS rfl (gd rfl)) (cK (bS (ah rfl) az rfl) rfl (cK (jy (c9 (ah rfl) L1 rfl rfl) (ah rfl) (bS (ah rfl) az rfl) (qv (p:=a+1) (w:= [c]) (j:=a+1+1) hl ha1 rfl)) rfl (aB (cU (gE rfl (dw (ah rfl) az (dE (λe=>nomatch e)))) ba) (aB (cU ?_ ba) ba))))) (app (a+1))))) hw) T ?_ K hj h1 h2
   ·cases hc using cV with
    | inl h=>erw [h];exact pj (cS rfl (nH rfl))
    | inr h=>erw [h];exact mx (cS rfl (GI (λe=>nomatch e))) (cS rfl (nH rfl))
   ·erw [(show a+(92::c::cA cs).length=a+1+1+(cA cs).length from by erw [aI,aI];exact(bI (bE (aJ ai (eS cN)) (aJ (eS bf) ay) [] aR) (bE (aJ (eS bf) ay) (aJ ai (eS cN)) [] aR)))]
    exact L'
  ·have es:cA (c::cs)=c::cA cs:=if_neg hc;rw[es]at ha |-
   refine wZ (s9 (x1:=x1) L hl cs (us++ [c]) (a+1) (some (.str [c])) (At.cons ha) hu') λk j e ls' H' hw T L' K hj h1 h2=>?_;rw[aA]at h1;refine EV k j e ls' H' (eQ (gE rfl az) (Ez (ss:= []) (us:=us) L hl ha (ie (cS rfl (dE λe=>hc (.inl (dB e).1))) (ie (cS rfl (dE λe=>hc (.inr (dB e).1))) (app a)))) hw) T ?_ K hj h1 h2
   erw [(show a+(c::cA cs).length=a+1+(cA cs).length from by erw [aI];exact(bI (bE (aJ ai cN) (aJ bf ay) [] aR) (bE (aJ bf ay) (aJ ai cN) [] aR)))]
   exact L'
def TY(L:Lx H l t q)(hl:t.length<=1000000)(hc:cs.length<=1000000)(a:At t q (34::cA cs++34::r)):∃k j e H',aP (d+3) H 95 [.ref l] (.ref k,H')/\Tk H' k DH (.ref (j+1)) q e/\Lx H' l t (q+1+(cA cs).length+1)/\Keep (·≠l) H H'/\H.length<=j/\Hk H' j (.list (cs.map λc:Nat=> .int c))/\Hk H' (j+1) (.n 5 [(19, .ref j)]):=by
 refine wZ (s9 (d:=d) (x1:=some (.int q)) (r:=r) L hl cs [] (q+1) none a.cons (by show 0+_<=_;exact(cz (aJ (aG 0) ai) cX [(ai,cX)] aR hc))) λk j e ls' H' hw T L' K hj h1 h2=>?_;exact HP k j e H' (bx (F:=Sg) rfl rfl rfl (cK (cB rfl L rfl rfl) rfl (cK (fK ao (aM (aX _))) rfl (cK (bS (ah rfl) az rfl) rfl (eP hw))))) T L' K hj h1 h2
def Dz(hc:cs.length<=1000000):Tok ([34]++cA cs++ [34]++r) DH (Mp (.text cs)) r:=fun{d H l q t} L hl a=>by
 have a':At t q (34::cA cs++34::r):=by
  erw [(show 34::cA cs++34::r= [34]++cA cs++ [34]++r from by erw [aA,aA];rfl)];exact a
 refine Gk (TY (d:=d+18) L hl hc a') λk j e H' e1 T L' K hj h1 h2=>?_;refine ye k _ _ _ _ _ H' (DE L hl a' rfl (mu (cS rfl (gd rfl)) (fx (i4 rfl L rfl rfl rfl ao e1)))) T L' ?_ K (λn es hn=>(CE (j+1) j rfl (jU h2 rfl (λzz zy h=>nomatch h)) h2 (⟨λc zz=> .inl (aj hn hj),λi s e=>nomatch h1.symm.trans e⟩) h1));have:=At.app (w:= [34]++cA cs++ [34]) a;rw[show q+([34]++cA cs++ [34]:List Nat).length=q+1+(cA cs).length+1 from by erw [af,af];show q+(1+_+1)=_;exact(bI (bE (aJ ai (eS (aJ (aG 1) ay))) (eS (aJ bf ay)) [] aR) (bE (eS (aJ bf ay)) (aJ ai (eS (aJ (aG 1) ay))) [] aR))]at this;exact this
end
end
mutual
def nt{s:List Nat}{v:AV}:∀{es:List (List Nat×AV)},kr s (nS s v es)=some v
 | []=>if_pos rfl
 | (g,u)::r=>by
  unfold nS;rcases Decidable.em (g=s)with h | h
  ·erw [if_pos h];exact if_pos rfl
  ·erw [if_neg h];exact(if_neg h).trans nt
def rX{s:List Nat}{v:AV}(hs:s'≠s):∀{es:List (List Nat×AV)},kr s' (nS s v es)=kr s' es
 | []=>if_neg (Ne.symm hs)
 | (g,u)::r=>by
  unfold nS;rcases Decidable.em (g=s)with h | h
  ·erw [if_pos h]
   show(if s=s' then some v else kr s' r)=if g=s' then some u else kr s' r
   erw [if_neg (Ne.symm hs),(if_neg (by erw [h];exact Ne.symm hs))];rfl
  ·erw [if_neg h]
   show(if g=s' then some u else kr s' (nS s v r))=if g=s' then some u else kr s' r
   erw [rX hs];rfl
def xm{s:List Nat}{v:AV}:∀{es:List (List Nat×AV)},(nS s v es).length<=es.length+1
 | []=>aw _
 | (g,u)::r=>by
  unfold nS;rcases Decidable.em (g=s)with h | h
  ·erw [if_pos h];exact ow _
  ·erw [if_neg h];exact dA xm
abbrev HE(es:List (List Nat×AV))(L:List (List Nat)):Nat:=(L.filter λs=>(kr s es).isNone).length
def uW{p q:α->Bool}(h:∀x,q x=true->p x=true):∀{l:List α},(l.filter q).length<=(l.filter p).length
 | []=>aw _
 | x::l=>by
  have ih:=uW h (l:=l);cases hp:p x with
  | true=>cases hq:q x with
   | true=>erw [eJ hp,eJ hq];exact dA ih
   | false=>erw [eJ hp,(eK (by erw [hq];exact nofun))];exact gK ih
  | false=>cases hq:q x with
   | true=>rw[h x hq]at hp;exact nomatch hp
   | false=>erw [(eK (by erw [hq];exact nofun)),(eK (by erw [hp];exact nofun))];exact ih
def uV{p q:α->Bool}(h:∀x,q x=true->p x=true){s:α}(h1:p s=true)(h2:q s=false):∀{l:List α},s∈l->(l.filter q).length+1<=(l.filter p).length
 | x::l,m=>by
  cases m with
  | head=>erw [eJ h1,(eK (by erw [h2];exact nofun))];exact dA (uW h)
  | tail zz m=>
   have ih:=uV h h1 h2 m;cases hp:p x with
   | true=>cases hq:q x with
    | true=>erw [eJ hp,eJ hq];exact dA ih
    | false=>erw [eJ hp,(eK (by erw [hq];exact nofun))];exact gK ih
   | false=>cases hq:q x with
    | true=>rw[h x hq]at hp;exact nomatch hp
    | false=>erw [(eK (by erw [hq];exact nofun)),(eK (by erw [hp];exact nofun))];exact ih
def Hn{s:List Nat}{v:AV}{es:List (List Nat×AV)}(h:(kr s' (nS s v es)).isNone=true):(kr s' es).isNone=true:=by
 rcases Decidable.em (s'=s)with e | e
 ·rw[e,nt]at h;exact nomatch h
 ·rw[rX e]at h;exact h
structure Tb(H:Hp)(tb rw dc:Nat)(es:List (List Nat×AV)):Prop where
 ht:Hk H tb (.n 2 [(14, .ref rw),(15, .ref dc)])
 hr:∃rs,Hk H rw (.list rs)/\rs.length+HE es names<=14
 he:es.length+HE es names<=14
 hd:Hk H dc (.dict es)
 hs:∀s v,kr s es=some v->∃k n,v= .ref k/\Hk H k (.n 1 [(12, .int n),(13, .str s)])
end
section
mutual
variable{d:Nat}{H H':Hp}{tb rw dc:Nat}{es:List (List Nat×AV)}{s:List Nat}
def Tb.ne(T:Tb H tb rw dc es):rw≠dc:=by refine aL (T.hr) λrs h zz=>?_;exact aZ h T.hd (λe=>nomatch e)
def Tb.net(T:Tb H tb rw dc es):tb≠rw/\tb≠dc:=by refine aL (T.hr) λrs h zz=>?_;exact⟨aZ T.ht h (λe=>nomatch e),aZ T.ht T.hd (λe=>nomatch e)⟩
def Tb.keep{ok:Nat->Prop}(T:Tb H tb rw dc es)(K:Keep ok H H')(o1:ok tb)(o2:ok rw)(o3:ok dc)(o4:∀k n s,Hk H k (.n 1 [(12, .int n),(13, .str s)])->ok k):Tb H' tb rw dc es:=by
 refine aL (T.hr) λrs h hl=>?_;exact⟨K.at_ _ _ o1 T.ht,(bH rs (K.at_ _ _ o2 h) hl),T.he,K.at_ _ _ o3 T.hd,λs v e=>by refine gy (T.hs s v e) λk n e1 e2=>?_;exact kS k n e1 (K.at_ _ _ (o4 k n s e2) e2)⟩
def JP{ls:Ls}{a b:E}{aq:Hp}(ha:Re d ls H a (.ref dc,H))(hd:Hk H dc (.dict es))(hb:Re d ls H b (.str s,H)):Re d ls H (.meth a 2 [b, .lit .none]) ((kr s es).getD .none,H):=
 r5 ha (by show(H[dc]?).bind (xI P 2)=none;erw [hd];rfl) (by show lE 2 H[dc]? =true;erw [hd];rfl) (ak hb (gR ao)) (bo hd rfl)
def c7(T:Tb H tb rw dc es):aP (d+1) H 7 [.ref tb, .str s] ((kr s es).getD .none,H):=
 bx (F:=f7) rfl rfl rfl (fx (JP (aq:=H) (cB rfl T.ht rfl rfl) T.hd (ah rfl)))
def c2{a b:AV}:aP (d+1) (H++ [.n 1 []]) 2 [.ref H.length,a,b] (.none,H++ [.n 1 [(12,a),(13,b)]]):=fB (F:=f2) rfl rfl rfl (aB (dS rfl (ah rfl) rfl rfl) (aB (dS rfl (ah rfl) rfl rfl) ba))
def c4(T:Tb H tb rw dc es)(hn:s∈names):∃k es' H',aP (d+2) H 4 [.ref tb, .str s] (.ref k,H')/\Tb H' tb rw dc es'/\Sub es es'/\kr s es'=some (.ref k)/\Keep (λi=>i≠rw/\i≠dc) H H':=by
 have g:∀{x2:Option AV},Re (d+1) [some (.ref tb),some (.str s),x2,none,none] H (.meth (.aT (.v 0) 15) 2 [.v 1, .lit .none]) ((kr s es).getD .none,H):=JP (aq:=H) (cB rfl T.ht rfl rfl) T.hd (ah rfl);cases hk:kr s es with
 | some v=>
  refine gy (T.hs s v hk) λk n xq1 hc=>?_;subst xq1;rw[hk]at g;exact iR k es H (bx (F:=f4) rfl rfl rfl (cK g rfl (ie (cS rfl rfl) (fx (ah rfl))))) T .refl hk .refl
 | none=>
  rw[hk]at g;refine aL (T.hr) λrs hr hl=>?_;have lk:HE (nS s (.ref H.length) es) names+1<=HE es names:=uV (λx=>Hn) (by erw [hk];rfl) (by erw [nt];rfl) hn;have hrs:rs.length<=1000000:=by exact(bE ai cX [(aJ ai ay,aG 14)] aR hl)
  have hes:cF es.length=true:=aM (by have:=T.he;exact(bE ai cX [(aJ ai ay,aG 14)] aR this));have r1:rw<H.length:=bw hr;have d1:dc<H.length:=bw T.hd;have t1:(H++ [Cell.n 1 [(12,AV.int rs.length),(13,AV.str s)]])[tb]? =_:=bC T.ht;have hr1:(H++ [Cell.n 1 [(12,AV.int rs.length),(13,AV.str s)]])[rw]? =_:=bC hr;have hd2:Hk ((H++ [Cell.n 1 [(12,AV.int rs.length),(13,AV.str s)]]).set rw (Cell.list (rs++ [AV.ref H.length]))) dc (.dict es):=cW T.ne (bC T.hd);have t2:((H++ [Cell.n 1 [(12,AV.int rs.length),(13,AV.str s)]]).set rw (Cell.list (rs++ [AV.ref H.length])))[tb]? =_:=cW T.net.1.symm t1;have K:Keep (λi=>i≠rw/\i≠dc) H (((H++ [Cell.n 1 [(12,AV.int rs.length),(13,AV.str s)]]).set rw (Cell.list (rs++ [AV.ref H.length]))).set dc (.dict (nS s (.ref H.length) es))):=(Keep.app.trans (Keep.set λo=>o.1 rfl)).trans (Keep.set λo=>o.2 rfl);have sb:Sub es (nS s (.ref H.length) es):=λs' v h=>by
   erw [(rX (λe=>by rw[e,hk]at h;exact nomatch h))];exact h
  refine iR H.length (nS s (.ref H.length) es) _ (bx (F:=f4) rfl rfl rfl (cK g rfl (aB (ff (cS rfl rfl) (cK (gG (ak (eH (ak (cB rfl T.ht rfl rfl) ao) (kg hr hrs)) (bV rfl ao)) rfl c2) rfl (uv (ft (c9 (ah rfl) t1 rfl rfl) hr1 (ah rfl) hr1 (aM hrs)) (aB (iT (ah rfl) (FX (c9 (ah rfl) t2 rfl rfl) (ah rfl) ?_)) ba)))) (fx (ah rfl))))) (⟨K.at_ _ _ T.net T.ht,(bH (rs++ [.ref H.length]) ?_ ?_),?_,?_,?_⟩) sb nt K
  ·show(((H++ [Cell.n 1 [(12,AV.int rs.length),(13,AV.str s)]]).set rw (Cell.list (rs++ [AV.ref H.length])))[dc]?).bind _=_
   erw [hd2]
   show eU (cF es.length) _=_
   erw [hes];rfl
  ·exact cW T.ne.symm (cO (by erw [af];exact gK r1))
  ·erw [af];show rs.length+1+_<=_;exact(gj (aJ bf ay) (aG 14) [(cN,bF),(aJ ai bF,aG 14)] aR lk hl)
  ·have:=T.he;have:=xm (s:=s) (v:= .ref H.length) (es:=es);lia
  ·exact cO (by erw [iM,af];exact gK d1)
  ·intro s' v h;rcases Decidable.em (s'=s)with e | e
   ·rw[e,nt]at h
    (replace h:=ae h;subst h)
    exact kS _ rs.length rfl (by erw [e];exact cW (aC d1) (cW (aC r1) aU))
   ·rw[rX e]at h;refine gy (T.hs s' v h) λk n e1 e2=>?_;exact kS k n e1 (K.at_ _ _ ⟨λe=>aZ e2 hr (λh=>nomatch h) e,λe=>aZ e2 T.hd (λh=>nomatch h) e⟩ e2)
end
end
mutual
def HG{H:Hp}{n:Nat}(h:n<=1000000):gA H (.rng ((n:Int)-1) (-1) (-1))=some (.rng ((n:Int)-1) (-1) n):=by
 have e1:g9 ((n:Int)-1) (-1) (-1)=n:=by
  unfold g9 eN
  erw [(if_neg (by decide))]
  cases n using bL with
  | zero=>rfl
  | succ n=>
   erw [(if_pos (by exact(eB [] [_] 0 (.ip (.ik (-1)) (.ik 1)) (.is (.ic bf) (.ik 1)) .ho aR))),(show(((n+1:Nat):Int)-1- -1-1) / -(-1)+1=((n+1:Nat):Int)from by erw [(show -(-1:Int)=1 from rfl),Int.ediv_one];exact(jS (eB [] [_] 0 (.ip (.is (.is (.is (.ic bf) (.ik 1)) (.ik (-1))) (.ik 1)) (.ik 1)) (.ic bf) .ho aR) (eB [] [_] 0 (.ic bf) (.ip (.is (.is (.is (.ic bf) (.ik 1)) (.ik (-1))) (.ik 1)) (.ik 1)) .ho aR)))]
   exact Int.toNat_natCast _
 have fl:∀i:Int,-1000001<=i->i<=1000001->Builtin.Range.rangeFitsLong i=true:=λi h1 h2=>ag.mpr ⟨decide_eq_true (by exact(eB [_] [] 0 (.ik (-(2 ^ 63))) (.iv 0) (.hz (.ik (-1000001)) (.iv 0) .ho) (by kernel_rfl) h1)),decide_eq_true (by exact(eB [_] [] 0 (.ip (.iv 0) (.ik 1)) (.ik (2 ^ 63)) (.hz (.iv 0) (.ik 1000001) .ho) aR h2))⟩;have sz:eN ((n:Int)-1) (-1) (-1)=n:=(bU (jr _ _ _)).symm.trans (congrArg Int.ofNat e1);have e2:cw ((n:Int)-1) (-1) (-1)=true:=by
  unfold cw
  erw [sz];rewrite [fl _ (by exact(eB [] [_] 0 (.ik (-1000001)) (.is (.ic ai) (.ik 1)) .ho aR)) (by exact(eB [] [_] 0 (.is (.ic ai) (.ik 1)) (.ik 1000001) (.hn ai cX .ho) aR h)),fl (-1) (by decide) (by decide),fl n (by exact(eB [] [_] 0 (.ik (-1000001)) (.ic ai) .ho aR)) (by exact(eB [] [_] 0 (.ic ai) (.ik 1000001) (.hn ai cX .ho) aR h))];erw [(if_neg (by decide)),(fl (-1+(-1+1)) (by decide) (by decide)),Bool.or_true]
  rfl
 show eU (cw _ _ _) (some (It.rng _ (-1) (g9 _ (-1) (-1))))=_
 erw [e1,e2];rfl
abbrev jE(ok:Nat->Prop)(H:Hp)(vs:List AV)(xs:List D):Prop:=vs.length=xs.length/\∀(i:Nat) v,vs[i]? =some v->∃x,xs[i]? =some x/\gI ok H v x
end
section
mutual
variable{kt:Nat}
variable{d n:Nat}{H H':Hp}{vs:List AV}{xs:List D}{es es':List (List Nat×AV)}{v:AV}{x:D}{ok ok':Nat->Prop}
def jE.nil:jE ok H [] []:=⟨rfl,λi v h=>nomatch h⟩
def jE.add(r:jE ok H vs xs)(q:gI ok H v x):jE ok H (vs++ [v]) (xs++ [x]):=⟨by erw [af,af,r.1];rfl,λi u h=>by
 rcases yU i vs.length with l | l
 ·rw[dj l]at h;refine aL (r.2 i u h) λy e q'=>?_;exact bH y (by erw [dj (r.1 ▸l)];exact e) q'
 ·rw[de l]at h;cases hi:i-vs.length with
  | zero=>
   rw[hi]at h
   (replace h:=ae h;subst h)
   exact bH x (by erw [de (r.1 ▸l),<- r.1,hi];rfl) q
  | succ j=>rw[hi]at h;exact nomatch h⟩
def jE.imp(r:jE ok H vs xs)(h:∀v x,gI ok H v x->gI ok' H' v x):jE ok' H' vs xs:=⟨r.1,λi v e=>by refine aL (r.2 i v e) λy e' q=>?_;exact bH y e' (h v y q)⟩
def To{a b:AV}:aP (d+1) (H++ [.n 3 []]) 10 [.ref H.length,a,b] (.none,H++ [.n 3 [(16,a),(17,b)]]):=fB (F:=SX) rfl rfl rfl (aB (dS rfl (ah rfl) rfl rfl) (aB (dS rfl (ah rfl) rfl rfl) ba))
def D6{a b:D}{u w:AV}(ra:gI (Nw n H es) H u a)(rb:gI (Nw n H es) H w b):gI (Nw n (H++ [.n 3 [(16,u),(17,w)]]) es) (H++ [.n 3 [(16,u),(17,w)]]) (.ref H.length) (.pair a b):=
 (iR _ u w rfl (jU aU rfl (λzz zy h=>nomatch h)) aU (ra.move Keep.app iD.lt .refl (aw _)) (rb.move Keep.app iD.lt .refl (aw _)))
noncomputable abbrev Qs:List S:= [(.aS (.v 2) (.new 3 [(.idx (.v 0) (.v 3)),(.v 2)]))]
def uN{l1 l4 l5:Option AV}(hn:vs.length<=1000000):∀(m:Nat) (H:Hp) (v:AV) (x:D) (x3:Option AV),m<=vs.length->Hk H kt (.list vs)->jE (Nw n H es) H vs xs->gI (Nw n H es) H v x->
  ∃v' x3' H',lL (d+1) [some (.ref kt),l1,some v,x3,l4,l5] H (.rng ((m:Int)-1) (-1) m) (.one 3) Qs (.next,[some (.ref kt),l1,some v',x3',l4,l5],H')/\gI (Nw n H' es) H' v' ((xs.take m).foldr .pair x)/\Keep all H H'
 | 0,H,v,x,x3,_,_,_,q=>(LC v x3 H (iH rfl) q .refl)
 | m+1,H,v,x,x3,hm,hk,r,q=>by
  have hv:vs[m]? =some vs[m]:=bl hm;refine aL (r.2 m _ hv) λy hy ry=>?_;obtain⟨v',x3',H',e,q',K⟩:=uN hn m (H++ [.n 3 [(16,vs[m]),(17,v)]]) (.ref H.length) (.pair y x) (some (.int (m:Int))) (dg hm) (bC hk) (r.imp λv x q=>q.move Keep.app iD.lt .refl (aw _)) (D6 ry q)
  erw [(show(((m+1:Nat):Int)-1)=(m:Int)from by exact(jS (eB [] [_] 0 (.is (.ic bf) (.ik 1)) (.ic ai) .ho aR) (eB [] [_] 0 (.ic ai) (.is (.ic bf) (.ik 1)) .ho aR)))]
  refine LC v' x3' H' (fq (v:= .int (m:Int)) (it':= .rng ((m:Int)+ -1) (-1) m) rfl rfl (cK (gG (ak (dC (ah rfl) (ah rfl) (fi hk hn hv)) (bV rfl ao)) rfl To) rfl ba) e) ?_ (Keep.app.trans K)
  erw [List.take_succ_eq_append_getElem (r.1 ▸hm),List.foldr_append]
  erw [(show xs[m]'(r.1 ▸hm)=y from ae ((bl _).symm.trans hy))]
  exact q'
def Up(hn:vs.length<=1000000)(hk:Hk H kt (.list vs))(r:jE (Nw n H es) H vs xs)(q:gI (Nw n H es) H v x):∃v' H',aP (d+2) H 20 [.ref kt,v] (v',H')/\gI (Nw n H' es) H' v' (xs.foldr .pair x)/\Keep all H H':=by
 refine B2 (uN (d:=d) (l1:=some v) (l4:=none) (l5:=none) hn vs.length H v x none (aw _) hk r q) λv' x3' H' e q' K=>?_;rw[show xs.take vs.length=xs from by erw [r.1,qm];rfl]at q';exact i5 v' H' (bx (F:=SQ) rfl rfl rfl (cK (ah rfl) rfl (aB (mL (eH (ak (bS (eH (bV rfl ao) (kg hk hn)) az rfl) (ak (pZ az) (ak (pZ az) ao))) A9) (HG hn) e) (fx (ah rfl))))) q' K
end
end
mutual
noncomputable abbrev JI(w:List Nat)(a:AV)(kt:Nat)(st:Int)(tl:AV):Cell:= .n 22 [(23, .str w),(40,a),(20, .ref kt),(44, .int st),(45,tl)]
noncomputable abbrev td:List Nat:= [108,105,115,116]
noncomputable abbrev Du:List Nat:= [118,101,99,116,111,114]
end
section
mutual
variable{d n:Nat}{H H' aq:Hp}{vs:List AV}{k r l f tb rw dc kf kt p:Nat}{t w:List Nat}{fs:List AV}{es:List (List Nat×AV)}{v a tl:AV}{st:Int}{ls:Ls}{x:E}
def fj{k:Nat}(h:Hk H k (.list vs)):aD H k=some vs:=by unfold aD;erw [h];rfl
def EA(h:Hk H k (.list vs))(hv:vs≠ []):iI (H++ [.list []]) .eq (.ref k) (.ref H.length)=some false:=by
 show(aD (H++ [.list []]) k).bind (λx=>(aD (H++ [.list []]) H.length).bind λy=>cond (aW x.length y.length) _ (some false))=_
 erw [fj (bC h),fj aU]
 cases vs using au with
 | nil=>exact absurd rfl hv
 | cons a b=>rfl
def xQ(h:Hk H k (.list [])):iI (H++ [.list []]) .eq (.ref k) (.ref H.length)=some true:=by
 show(aD (H++ [.list []]) k).bind (λx=>(aD (H++ [.list []]) H.length).bind λy=>cond (aW x.length y.length) (CU ((toPDs x).map .list) ((toPDs y).map .list)) (some false))=_
 erw [fj (bC h),fj aU]
 rfl
def vv(hx:Re d ls H x (.ref k,H))(h:Hk H k (.list vs))(hv:vs≠ []):Rt d ls H (.j .eq x (.list [])) (false,H++ [.list []]):=gN hx (fK ao (aM (aX _))) (EA h hv)
def GG(hx:Re d ls H x (.ref k,H))(h:Hk H k (.list [])):Rt d ls H (.j .eq x (.list [])) (true,H++ [.list []]):=gN hx (fK ao (aM (aX _))) (xQ h)
def GF(hx:Re d ls H x (.ref k,H))(h:Hk H k (.list [])):Rt d ls H (.j .ne x (.list [])) (false,H++ [.list []]):=gN hx (fK ao (aM (aX _))) (by show(Gi _ _ _).map _=_;erw [(show Gi (H++ [.list []]) (.ref k) (.ref H.length)=some true from xQ h)];rfl)
def pQ(h:Hk H k (.list (vs++ [v])))(hr:vs.length+1<=1000000):rN H (.ref k) (.int (-1))=some v:=by
 show(aD H k).bind (λvs=>rO vs (-1))=_
 erw [fj h]
 show(wW (.negSucc 0) (vs++ [v]).length).bind (λj=>(vs++ [v])[j]?)=_;unfold wW
 erw [(aM (by erw [af];exact hr))]
 show(match cf 0 (vs++ [v]).length with | true=>some ((vs++ [v]).length-1) | false=>none).bind _=_
 erw [(show cf 0 (vs++ [v]).length=true from cL.mpr (by erw [af];exact k6 _))]
 show(vs++ [v])[(vs++ [v]).length-1]? =_
 erw [af,(show vs.length+ [v].length-1=vs.length from rfl),de (aw _),mR]
 rfl
def TX{b c:AV}:aP (d+1) (H++ [.n 22 []]) 96 [.ref H.length, .str w,b, .ref kt] (.none,H++ [JI w b kt 0 (.obj 0)]):=fB (F:=Sf) rfl rfl rfl (aB (dS rfl (ah rfl) rfl rfl) (aB (dS rfl (ah rfl) rfl rfl) (aB (dS rfl (ah rfl) rfl rfl) (aB (dS rfl az rfl rfl) (aB (dS rfl az rfl rfl) ba)))))
structure RdS(H:Hp)(r l f tb rw dc:Nat)(t:List Nat)(p:Nat)(fs:List AV)(es:List (List Nat×AV)):Prop where
 hr:Hk H r (.n 23 [(46, .ref l),(47, .ref tb),(48, .ref f)])
 hl:Lx H l t p
 hf:Hk H f (.list fs)
 ht:Tb H tb rw dc es
 fr:f≠rw
structure FrOk(H:Hp)(kf kt f rw:Nat)(w:List Nat)(a:AV)(st:Int)(tl:AV)(vs:List AV):Prop where
 hc:Hk H kf (JI w a kt st tl)
 hk:Hk H kt (.list vs)
 nf:kt≠f
 nr:kt≠rw
structure Core(ok:Nat->Prop)(r l tb rw dc:Nat)(H:Hp):Prop where
 r:ok r
 l:ok l
 tb:ok tb
 rw:ok rw
 dc:ok dc
 sy:∀k n s,Hk H k (.n 1 [(12, .int n),(13, .str s)])->ok k
def RdS.keep{ok:Nat->Prop}{fs':List AV}(S:RdS H r l f tb rw dc t p fs es)(K:Keep ok H H')(o:Core ok r l tb rw dc H)(hf:Hk H' f (.list fs')):RdS H' r l f tb rw dc t p fs' es:=⟨K.at_ _ _ o.r S.hr,K.at_ _ _ o.l S.hl,hf,S.ht.keep K o.tb o.rw o.dc o.sy,S.fr⟩
def RdS.core(S:RdS H r l f tb rw dc t p fs es){j:Nat}{c:Cell}(h:Hk H j c)(h1:qQ c=false)(h2:∀a b,c≠ .n 2 [(14,a),(15,b)])(h3:∀a b e,c≠ .n 23 [(46,a),(47,b),(48,e)])(h4:∀a b e g,c≠ .n 21 [(13,a),(42,b),(26,e),(43,g)])(h5:j≠rw)(h6:∀e,c≠ .dict e):Core (·≠j) r l tb rw dc H:=⟨λe=>aZ h S.hr (h3 _ _ _) e.symm,λe=>aZ h S.hl (h4 _ _ _ _) e.symm,λe=>aZ h S.ht.ht (h2 _ _) e.symm,h5.symm,λe=>aZ h S.ht.hd (h6 _) e.symm,λk n s g e=>by
  rw[e]at g;cases h.symm.trans g
  exact nomatch h1⟩
def RdS.coreF(S:RdS H r l f tb rw dc t p fs es):Core (·≠f) r l tb rw dc H:=S.core S.hf rfl (λzz zy h=>nomatch h) (λzz zy zx h=>nomatch h) (λzz zy zx zw h=>nomatch h) S.fr (λzz h=>nomatch h)
def Core.all:Core all r l tb rw dc H:=⟨trivial,trivial,trivial,trivial,trivial,λzz zy zx zw=>trivial⟩
def RdS.more(S:RdS H r l f tb rw dc t p fs es)(K:Keep all H H'):RdS H' r l f tb rw dc t p fs es:=S.keep K .all (K.at_ _ _ trivial S.hf)
def FrOk.keep{ok:Nat->Prop}(F:FrOk H kf kt f rw w a st tl vs)(K:Keep ok H H')(o1:ok kf)(o2:ok kt):FrOk H' kf kt f rw w a st tl vs:=⟨K.at_ _ _ o1 F.hc,K.at_ _ _ o2 F.hk,F.nf,F.nr⟩
def sT(S:RdS H r l f tb rw dc t p fs es)(hn:fs.length<=1000000){k:Nat}{w':List Nat}{e:AV}(T:Hk H k (.n 20 [(23, .str w'),(39,v),(40,a),(41,e)])):∃kf kt H',Rs (d+1) [some (.ref r),some (.ref k),none,none,none,none] H (.expr (.meth (.aT (.v 0) 48) 0 [(.new 22 [(.lit (.str w)),(.aT (.v 1) 40),(.list [])])])) (.next,[some (.ref r),some (.ref k),none,none,none,none],H')/\RdS H' r l f tb rw dc t p (fs++ [.ref kf]) es/\FrOk H' kf kt f rw w a 0 (.obj 0) []/\H.length<=kf/\H.length<=kt/\Keep (·≠f) H H':=by
 have K0:Keep all H (H++ [.list []]++ [JI w a H.length 0 (.obj 0)]):=Keep.app.trans Keep.app;have f0:f<H.length:=bw S.hf;have K:Keep (·≠f) H ((H++ [Cell.list []]++ [JI w a H.length 0 (.obj 0)]).set f (.list (fs++ [.ref (H++ [Cell.list []]).length]))):=(K0.weak λzz zy=>trivial).trans (Keep.set λo=>o rfl);refine LB _ H.length _ (sO (ft (cB rfl S.hr rfl rfl) S.hf (gG (gR (ak (cB rfl T rfl rfl) (ak (fK ao (aM (aX _))) ao))) rfl (TX (c:=v))) (bC (bC S.hf)) (aM hn))) (S.keep K S.coreF (cO (by erw [af,af];exact(bE bf (aJ (aJ ay (eS (aG 0))) (eS (aG 0))) [(bf,ay)] aR f0)))) (⟨cW (by erw [af];exact(λzz=>(CL [(bf,ay),((aJ ay (eS (aG 0))),ai)] aR f0 (lq zz)))) aU,cW (aC f0) (bC aU),Ne.symm (aC f0),?_⟩) (by erw [af];exact(cz ai (aJ ai (eS (aG 0))) [] aR)) (aw _) K;refine aL (S.ht.hr) λrs h zz=>?_;exact Ne.symm (aC (bw h))
end
end
section
mutual
variable{d n:Nat}{H H' aq:Hp}{vs:List AV}{xs:List D}{k r l f tb rw dc kf kt p:Nat}{t w:List Nat}{fs:List AV}{es:List (List Nat×AV)}{v a tl a1 e1:AV}{st:Int}{x:D}{s:List Nat}
noncomputable abbrev Dl(H:Hp)(k:Nat)(w:List Nat)(v a e:AV):Prop:=Hk H k (.n 20 [(23, .str w),(39,v),(40,a),(41,e)])
def Pt(S:RdS H r l f tb rw dc t p fs es)(hn:fs.length<=1000000)(T:Dl H k [40] v a e1):∃kf kt H',aP (d+2) H 102 [.ref r, .ref k] (.bool true,H')/\RdS H' r l f tb rw dc t p (fs++ [.ref kf]) es/\FrOk H' kf kt f rw td a 0 (.obj 0) []/\H.length<=kf/\H.length<=kt/\Keep (·≠f) H H':=by
 refine vo (sT (d:=d) (w:=td) S hn T) λkf kt H' e h=>?_;exact Ac kf kt H' (bx (F:=Io) rfl rfl rfl (mu (gN (cB rfl T rfl rfl) az (gd rfl)) (aB e (fx az)))) h
def Ps(S:RdS H r l f tb rw dc t p fs es)(hn:fs.length<=1000000)(T:Dl H k [35,40] v a e1):∃kf kt H',aP (d+2) H 102 [.ref r, .ref k] (.bool true,H')/\RdS H' r l f tb rw dc t p (fs++ [.ref kf]) es/\FrOk H' kf kt f rw Du a 0 (.obj 0) []/\H.length<=kf/\H.length<=kt/\Keep (·≠f) H H':=by
 refine vo (sT (d:=d) (w:=Du) S hn T) λkf kt H' e h=>?_;exact Ac kf kt H' (bx (F:=Io) rfl rfl rfl (ie (gN (cB rfl T rfl rfl) az (dE λe=>nomatch e)) (mu (gN (c9 (ah rfl) T rfl rfl) az (gd rfl)) (aB e (fx az))))) h
def JW(T:Dl H k w v a e1)(hw:(([[40],[35,40],[39],[96],[44],[44,64]]:List (List Nat)).all λy=> !decide (y=w))=true):aP (d+2) H 102 [.ref r, .ref k] (.bool false,H):=by
 have h:=λy m=>of_decide_eq_false (m5 (aS.mp hw y m));have tk:∀{x2 x3 l4 l5:Option AV},Re (d+1) [some (.ref r),some (.ref k),x2,x3,l4,l5] H (.aT (.v 1) 23) (.str w,H):=cB rfl T rfl rfl;have step:∀{s:List Nat} {q:AV} {it:List AV} {x2 x3:Option AV} {B:List S} {o:Fl×Ls×Hp},s≠w->lL (d+1) [some (.ref r),some (.ref k),some (.str s),some q,none,none] H (.vals it) (.many [2,3]) [.ite (.j .eq (.v 2) (.aT (.v 1) 23)) B []] o->lL (d+1) [some (.ref r),some (.ref k),x2,x3,none,none] H (.vals (.U [.str s,q]::it)) (.many [2,3]) [.ite (.j .eq (.v 2) (.aT (.v 1) 23)) B []] o:=λh k=>fq rfl rfl (ie (gN (ah rfl) tk (dE h)) ba) k;exact bx (F:=Io) rfl rfl rfl (ie (gN tk az (dE (Ne.symm (h [40] (by decide))))) (ie (gN tk az (dE (Ne.symm (h [35,40] (by decide))))) (aB (mL az rfl (step (h [39] (by decide)) (step (h [96] (by decide)) (step (h [44] (by decide)) (step (h [44,64] (by decide)) (iH rfl)))))) (fx az))))
def RN(S:RdS H r l f tb rw dc t p (fs++ [.ref kf]) es)(hn:fs.length+1<=1000000)(F:FrOk H kf kt f rw td a 0 tl vs)(hv:vs≠ []):∃H',aP (d+1) H 103 [.ref r,v] (.none,H')/\RdS H' r l f tb rw dc t p (fs++ [.ref kf]) es/\FrOk H' kf kt f rw td a 1 tl vs/\Keep (·≠kf) H H':=by
 have g1:(H++ [Cell.list []])[kf]? =_:=bC F.hc;have g2:(H++ [Cell.list []]++ [Cell.list []])[kf]? =_:=bC g1;have K:Keep (·≠kf) H ((H++ [Cell.list []]++ [Cell.list []]).set kf (JI td a kt 1 tl)):=(Keep.app.trans Keep.app).trans (Keep.set λo=>o rfl);have nf:f≠kf:=aZ S.hf F.hc (λe=>nomatch e);have nr:kf≠rw:=by refine aL (S.ht.hr) λrs h zz=>?_;exact aZ F.hc h (λe=>nomatch e)
 exact CG _ (fB (F:=OU) rfl rfl rfl (ie (vv (cB rfl S.hr rfl rfl) S.hf (by induction fs using au <;> exact nofun)) (cK (dC (cB rfl (bC S.hr) rfl rfl) (pZ az) (pQ (bC S.hf) hn)) rfl (ie (iP (gE rfl (dw (c9 (ah rfl) g1 rfl rfl) az (nH rfl))) (iP (vv (c9 (ah rfl) g1 rfl rfl) (bC F.hk) hv) (gE rfl (dw (c9 (ah rfl) g2 rfl rfl) az rfl)))) (aB (iT az (jC (ah rfl) g2 rfl rfl)) ba))))) (S.keep K (S.core F.hc rfl (λzz zy h=>nomatch h) (λzz zy zx h=>nomatch h) (λzz zy zx zw h=>nomatch h) nr (λzz h=>nomatch h)) (K.at_ _ _ nf S.hf)) (⟨cO (by have:=bw g2;exact this),K.at_ _ _ (aZ F.hk F.hc (λe=>nomatch e)) F.hk,F.nf,F.nr⟩) K
def yE(S:RdS H r l f tb rw dc t p (fs++ [.ref kf]) es)(hn:fs.length+1<=1000000)(F:FrOk H kf kt f rw w a st tl vs)(hw:w≠ [113,117,111,116,97,116,105,111,110])(hs:st≠1){o:Fl×Ls×Hp}
  (k:gH d [some (.ref r),some v,some (.ref kf),none,none] ((H++ [Cell.list []]).set f (Cell.list fs)) (Fg.body.drop 5) o):gH d [some (.ref r),some v,none,none,none] H Fg.body o:=
 ie (vv (cB rfl S.hr rfl rfl) S.hf (by induction fs using au <;> exact nofun)) (cK (dC (cB rfl (bC S.hr) rfl rfl) (pZ az) (pQ (bC S.hf) hn)) rfl (ie (gE rfl (dw (c9 (ah rfl) (bC F.hc) rfl rfl) az (dE hw))) (aB (cU (gE rfl (dw (c9 (ah rfl) (bC F.hc) rfl rfl) az (km hs))) ba) (aB (sO (JN (c9 (ah rfl) (bC S.hr) rfl rfl) (bC S.hf) (aM (by erw [af];exact hn)))) k))))
def J2(S:RdS H r l f tb rw dc t p (fs++ [.ref kf]) es):RdS ((H++ [Cell.list []]).set f (Cell.list fs)) r l f tb rw dc t p fs es:=
 S.keep ((Keep.app (ok:=(·≠f))).trans (Keep.set λo=>o rfl)) S.coreF (cO (by erw [af];exact ou (bw S.hf)))
def J3:Keep (·≠f) H ((H++ [Cell.list []]).set f (Cell.list fs)):=Keep.app.trans (Keep.set λo=>o rfl)
def Oi(S:RdS H r l f tb rw dc t p fs es)(hfn:f<n):iD n H (·≠f):=iD.ne S.hf hfn rfl
def Pq(S:RdS H r l f tb rw dc t p (fs++ [.ref kf]) es)(hn:fs.length+1<=1000000)(F:FrOk H kf kt f rw td a st tl vs)(hs:st≠1)(hv:vs.length<=1000000)(hfn:f<n)(rs:jE (Nw n H es) H vs xs)(q:gI (Nw n H es) H tl x):∃v' H',aP (d+3) H 104 [.ref r,v] (v',H')/\RdS H' r l f tb rw dc t p fs es/\gI (Nw n H' es) H' v' (xs.foldr .pair x)/\Keep (·≠f) H H':=by
 have K1:Keep (·≠f) H ((H++ [Cell.list []]).set f (Cell.list fs)):=J3;have F1:=F.keep K1 (aZ F.hc S.hf λe=>nomatch e) F.nf;refine dX (Up (d:=d) hv F1.hk (rs.imp λv x q=>q.move K1 (Oi S hfn) .refl (aw _)) (q.move K1 (Oi S hfn) .refl (aw _))) λv' H' e q' K=>?_;exact d0 v' H' (bx (F:=Fg) rfl rfl rfl (yE S hn F (λe=>nomatch e) hs (ie (gN (cB rfl F1.hc rfl rfl) az (dE λe=>nomatch e)) (fx (bg (ak (cB rfl F1.hc rfl rfl) (ak (cB rfl F1.hc rfl rfl) ao)) e))))) ((J2 S).more K) q' (K1.trans (K.weak λzz zy=>trivial))
def Tj{v:AV}:aP (d+1) (H++ [.n 6 []]) 13 [.ref H.length,v] (.none,H++ [.n 6 [(20,v)]]):=fB (F:=SU) rfl rfl rfl (aB (dS rfl (ah rfl) rfl rfl) ba)
def Pp(S:RdS H r l f tb rw dc t p (fs++ [.ref kf]) es)(hn:fs.length+1<=1000000)(F:FrOk H kf kt f rw Du a 0 tl vs):∃k' H',aP (d+3) H 104 [.ref r,v] (.ref k',H')/\RdS H' r l f tb rw dc t p fs es/\Hk H' k' (.n 6 [(20, .ref kt)])/\Keep (·≠f) H H':=by
 have K1:Keep (·≠f) H ((H++ [Cell.list []]).set f (Cell.list fs)):=J3;have F1:=F.keep K1 (aZ F.hc S.hf λe=>nomatch e) F.nf;exact d0 _ _ (bx (F:=Fg) rfl rfl rfl (yE S hn F (λe=>nomatch e) (λe=>nomatch e) (mu (gN (cB rfl F1.hc rfl rfl) az (gd rfl)) (fx (gG (ak (cB rfl F1.hc rfl rfl) ao) rfl Tj))))) ((J2 S).more Keep.app) aU (K1.trans Keep.app)
def RL(T:Dl H k w v a e1)(hw:w≠vw):aP (d+1) H 105 [.ref r, .ref k] (v,H):=
 bx (F:=LS) rfl rfl rfl (fx (fz (gN (cB rfl T rfl rfl) az (dE hw)) (cB rfl T rfl rfl)))
def Po(S:RdS H r l f tb rw dc t p fs es)(T:Dl H k vw (.str s) a e1)(hs:s∈names):∃k' es' H',aP (d+3) H 105 [.ref r, .ref k] (.ref k',H')/\RdS H' r l f tb rw dc t p fs es'/\Sub es es'/\(∀n,gI (Nw n H' es') H' (.ref k') (.sym s))/\Keep (λi=>i≠rw/\i≠dc) H H':=by
 refine jT (c4 (d:=d) S.ht hs) λk' es' H' e T' sb g K=>?_;have rn:r≠rw/\r≠dc:=by refine aL (S.ht.hr) λrs h zz=>?_;exact⟨aZ S.hr h (λe=>nomatch e),aZ S.hr S.ht.hd (λe=>nomatch e)⟩
 have ln:l≠rw/\l≠dc:=by refine aL (S.ht.hr) λrs h zz=>?_;exact⟨aZ S.hl h (λe=>nomatch e),aZ S.hl S.ht.hd (λe=>nomatch e)⟩
 refine gy (T'.hs s _ g) λj m ej hj=>?_;cases ej
 exact iR k' es' H' (bx (F:=LS) rfl rfl rfl (fx (eW (gN (cB rfl T rfl rfl) az (gd rfl)) (gC (cB rfl S.hr rfl rfl) S.ht.ht rfl rfl rfl (ak (cB rfl T rfl rfl) ao) e)))) (⟨K.at_ _ _ rn S.hr,K.at_ _ _ ln S.hl,K.at_ _ _ ⟨S.fr,aZ S.hf S.ht.hd (λe=>nomatch e)⟩ S.hf,T',S.fr⟩) sb (λn=>(i5 k' m rfl (⟨λc h=>by cases hj.symm.trans h;exact .inr rfl,λi s' h=>by cases hj.symm.trans h;exact g⟩) hj)) K
def Pj(S:RdS H r l f tb rw dc t p [] es):aP (d+1) H 106 [.ref r,v,a1] (.bool true,H):=
 bx (F:=CQ) rfl rfl rfl (cK (ah rfl) rfl (cK (eH (ak (cB rfl S.hr rfl rfl) ao) (kg S.hf (aX _))) rfl (aB (eR (pj (cS rfl rfl))) (mu (gE rfl (dw (ah rfl) az rfl)) (eP (kH az))))))
def BM(S:RdS H r l f tb rw dc t p (fs++ [.ref kf]) es)(hn:fs.length+1<=1000000)(F:FrOk H kf kt f rw w a st tl vs)(hw:w≠ [113,117,111,116,97,116,105,111,110])(hs:st≠2){o:Fl×Ls×Hp}
  (k:gH d [some (.ref r),some v,some a1,some v,some (.int (fs.length+1:Nat)),some (.ref kf),none,none] H (CQ.body.drop 7) o):gH d [some (.ref r),some v,some a1,none,none,none,none,none] H CQ.body o:=by
 have hl:(fs++ [AV.ref kf]).length=fs.length+1:=af;have ln:∀{ls:Ls},ls[0]? =some (some (.ref r))->Re d ls H (.bi .len [.aT (.v 0) 48]) (.int (fs.length+1:Nat),H):=λh0=>by
  erw [<- hl]
  exact eH (ak (c9 (ah h0) S.hr rfl rfl) ao) (kg S.hf (by erw [hl];exact hn))
 have gt:iI H .gt (.int (fs.length+1:Nat)) (.int 0)=some true:=dT (by exact(eB [] [_] 0 (.ip (.ik 0) (.ik 1)) (.ic bf) .ho aR));have ix:rN H (.ref f) (.int (fs.length:Nat))=some (.ref kf):=fi S.hf (by erw [hl];exact hn) (by erw [de (aw _),mR];rfl);refine cK (ah rfl) rfl (cK (ln rfl) rfl (aB (eR (mx (cS rfl gt) (gN (c9 (dC (c9 (ah rfl) S.hr rfl rfl) (bS (ah rfl) az (show nW .sub (.int ((fs.length+1:Nat):Int)) (.int 1) H=some (.int (fs.length:Nat),H)from ?_)) ix) F.hc rfl rfl) az (dE hw)))) (ie (gE rfl (dw (ah rfl) az (km (by exact(λzz=>(Dj [] [_] (.hz (.ic bf) (.ik 0) .ho) aR (wU zz))))))) (aB (eR (gE rfl (dw (ln rfl) (ah rfl) (dF (o6 _))))) (aB (iT (dC (c9 (ah rfl) S.hr rfl rfl) (pZ az) (pQ S.hf hn)) (eh rfl)) (aB (cU (gE rfl (dw (c9 (ah rfl) F.hc rfl rfl) az (km hs))) ba) k))))));show some (AV.int (((fs.length+1:Nat):Int)-1),H)=_
 erw [(show(((fs.length+1:Nat):Int)-1)=(fs.length:Int)from by exact(jS (eB [] [_] 0 (.is (.ic bf) (.ik 1)) (.ic ai) .ho aR) (eB [] [_] 0 (.ic ai) (.is (.ic bf) (.ik 1)) .ho aR)))];rfl
def Pl(S:RdS H r l f tb rw dc t p (fs++ [.ref kf]) es)(hn:fs.length+1<=1000000)(F:FrOk H kf kt f rw w a 0 tl vs)(hw:w≠ [113,117,111,116,97,116,105,111,110])(hv:vs.length<=1000000):∃H',aP (d+1) H 106 [.ref r,v,a1] (.bool false,H')/\RdS H' r l f tb rw dc t p (fs++ [.ref kf]) es/\FrOk H' kf kt f rw w a 0 tl (vs++ [v])/\Keep (·≠kt) H H':=by
 have K:Keep (·≠kt) H (H.set kt (.list (vs++ [v]))):=Keep.set λo=>o rfl;exact CG _ (bx (F:=CQ) rfl rfl rfl (BM S hn F hw (λe=>nomatch e) (aB (cU (gN (cB rfl F.hc rfl rfl) az rfl) (uv (ft (cB rfl F.hc rfl rfl) F.hk (ah rfl) F.hk (aM hv)) ba)) (fx az)))) (S.keep K (S.core F.hk rfl (λzz zy h=>nomatch h) (λzz zy zx h=>nomatch h) (λzz zy zx zw h=>nomatch h) F.nr (λzz h=>nomatch h)) (K.at_ _ _ F.nf.symm S.hf)) (⟨K.at_ _ _ (aZ F.hc F.hk λe=>nomatch e) F.hc,cO (bw F.hk),F.nf,F.nr⟩) K
def Pm(S:RdS H r l f tb rw dc t p (fs++ [.ref kf]) es)(hn:fs.length+1<=1000000)(F:FrOk H kf kt f rw w a 1 tl vs)(hw:w≠ [113,117,111,116,97,116,105,111,110]):∃H',aP (d+1) H 106 [.ref r,v,a1] (.bool false,H')/\RdS H' r l f tb rw dc t p (fs++ [.ref kf]) es/\FrOk H' kf kt f rw w a 2 v vs/\Keep (·≠kf) H H':=by
 have K:Keep (·≠kf) H ((H.set kf (JI w a kt 1 v)).set kf (JI w a kt 2 v)):=(Keep.set λo=>o rfl).trans (Keep.set λo=>o rfl);have g:(H.set kf (JI w a kt 1 v))[kf]? =_:=cO (bw F.hc);have nf:f≠kf:=aZ S.hf F.hc (λe=>nomatch e);have nr:kf≠rw:=by refine aL (S.ht.hr) λrs h zz=>?_;exact aZ F.hc h (λe=>nomatch e)
 exact CG _ (bx (F:=CQ) rfl rfl rfl (BM S hn F hw (λe=>nomatch e) (aB (ff (gN (cB rfl F.hc rfl rfl) az rfl) (lP (ah rfl) (jC (ah rfl) F.hc rfl rfl) (lP az (jC (ah rfl) g rfl rfl) ba))) (fx az)))) (S.keep K (S.core F.hc rfl (λzz zy h=>nomatch h) (λzz zy zx h=>nomatch h) (λzz zy zx zw h=>nomatch h) nr (λzz h=>nomatch h)) (K.at_ _ _ nf S.hf)) (⟨cO (bw g),K.at_ _ _ (aZ F.hk F.hc λe=>nomatch e) F.hk,F.nf,F.nr⟩) K
def RO(S:RdS H r l f tb rw dc t p [] es):aP (d+1) H 100 [.ref r,v] (v,H++ [.list []]):=
 bx (F:=OV) rfl rfl rfl (cK (ah rfl) rfl (aB (eR (GF (cB rfl S.hr rfl rfl) S.hf)) (fx (ah rfl))))
end
end
mutual
noncomputable abbrev Ra:S:=(.ite (.meth (.v 0) 73 [(.v 2),(.aT (.v 1) 40)]) [(.ret (.meth (.v 0) 80 [(.v 2)]))] [])
noncomputable abbrev Jm:List S:= [(.aS (.v 1) (.meth (.aT (.v 0) 46) 71 [])),(.ite (.j .eq (.aT (.v 1) 23) (.lit (.str [101,110,100]))) [(.ite (.j .eq (.aT (.v 0) 48) (.list [])) [(.ret (.lit (.obj 1)))] []), .fail] []),(.ite (.meth (.v 0) 72 [(.v 1)]) [.cont] []),(.ite (.j .eq (.aT (.v 1) 23) (.lit (.str [46]))) [(.expr (.meth (.v 0) 77 [(.v 1)])), .cont] []),(.aS (.v 2) (.ife (.j .eq (.aT (.v 1) 23) (.lit (.str [41]))) (.meth (.v 0) 78 [(.v 1)]) (.meth (.v 0) 79 [(.v 1)]))),Ra]
noncomputable abbrev D9:S:= .while (.lit (.bool true)) Jm
noncomputable abbrev wO(r:Nat)(x1 x2:Option AV):Ls:= [some (.ref r),x1,x2,none,none]
abbrev PH(d r k:Nat)(v:AV)(H:Hp)(o:Fl×Ls×Hp):Prop:= ∃fl ls' H',Rs (d+22) (wO r (some (.ref k)) (some v)) H Ra (fl,ls',H')/\((∃u,fl= .ret u/\o=(.ret u,ls',H'))\/(fl= .next/\Rs (d+22) ls' H' D9 o))
abbrev K7(n l rw dc f i:Nat):Prop:=i<n/\i≠l/\i≠rw/\i≠dc/\i≠f
abbrev Rd(d n:Nat)(H:Hp)(r l f tb rw dc:Nat)(t:List Nat)(fs:List AV)(es:List (List Nat×AV))(x1 x2:Option AV)(x:D)(rest:List Nat):Prop:=
 ∃v k w v0 a e q H' es',RdS H' r l f tb rw dc t q fs es'/\At t q rest/\gI (Nw n H' es') H' v x/\Sub es es'/\Keep (K7 n l rw dc f) H H'/\Dl H' k w v0 a e/\∀o,PH d r k v H' o->Rs (d+22) (wO r x1 x2) H D9 o
end
section
mutual
variable{w':List Nat}{ls:Ls}
variable{d n:Nat}{H H' aq:Hp}{vs:List AV}{xs:List D}{k r l f tb rw dc kf kt p:Nat}{t w s s' rest:List Nat}{fs:List AV}{es:List (List Nat×AV)}{v a tl a1 e1:AV}{st:Int}{x:D}{x1 x2:Option AV}{Q:Qv}
def Core.l_ne(S:RdS H r l f tb rw dc t p fs es):r≠l/\f≠l/\tb≠l/\rw≠l/\dc≠l:=by
 refine aL (S.ht.hr) λrs h zz=>?_;exact v9 (aZ S.hr S.hl (λe=>nomatch e)) (aZ S.hf S.hl (λe=>nomatch e)) (aZ S.ht.ht S.hl (λe=>nomatch e)) (aZ h S.hl (λe=>nomatch e)) (aZ S.ht.hd S.hl (λe=>nomatch e))
def RdS.lex{q:Nat}(S:RdS H r l f tb rw dc t p fs es)(K:Keep (·≠l) H H')(L:Lx H' l t q):RdS H' r l f tb rw dc t q fs es:=
 have n:=Core.l_ne S
 ⟨K.at_ _ _ n.1 S.hr,L,K.at_ _ _ n.2.1 S.hf,S.ht.keep K n.2.2.1 n.2.2.2.1 n.2.2.2.2 λk m s h=>aZ h S.hl (λe=>nomatch e),S.fr⟩
def z7(S:RdS H r l f tb rw dc t p fs es)(hl:t.length<=1000000)(ha:At t p s)(k:Sk s s')(T:Tok s' w Q rest):∃k v a e q bT aq,RdS aq r l f tb rw dc t q fs es/\At t q rest/\Dl aq k w v a e/\Keep (·≠l) H aq/\H.length<=bT.length/\Q bT aq v/\∀o,gH (d+22) (wO r (some (.ref k)) x2) aq (Jm.drop 1) o->gH (d+22) (wO r x1 x2) H Jm o:=by
 refine wY (T7 (d:=d) T k S.hl hl ha) λk v b e q bT aq e1 T1 L1 a1 K1 hn hq=>?_;exact Od k v _ _ q bT aq (S.lex K1 L1) a1 T1 K1 hn hq (λo h=>cK (gC (cB rfl S.hr rfl rfl) S.hl rfl rfl rfl ao e1) rfl h)
def qL{o:Fl×Ls×Hp}(T:Dl H k w v a e1)(hw:w≠ [101,110,100])(h:gH (d+22) (wO r (some (.ref k)) x2) H (Jm.drop 2) o):gH (d+22) (wO r (some (.ref k)) x2) H (Jm.drop 1) o:=
 ie (gN (cB rfl T rfl rfl) az (dE hw)) h
def vZ{o:Fl×Ls×Hp}(S:RdS H r l f tb rw dc t p fs es)(T:Dl H k w v a e1)(hw:(([[40],[35,40],[39],[96],[44],[44,64]]:List (List Nat)).all λy=> !decide (y=w))=true)(hd:w≠ [46])(h:gH (d+22) (wO r (some (.ref k)) x2) H (Jm.drop 4) o):gH (d+22) (wO r (some (.ref k)) x2) H (Jm.drop 2) o:=
 ie (gE rfl (i4 rfl S.hr rfl rfl rfl (bV rfl ao) (JW (d:=d+20) T hw))) (ie (gN (c9 (ah rfl) T rfl rfl) az (dE hd)) h)
def wk{o:Fl×Ls×Hp}(F:PH d r k v aq o)(h:∀p,Rs (d+22) (wO r (some (.ref k)) (some v)) aq Ra p->gH (d+22) ls H Jm p):Rs (d+22) ls H D9 o:=by
 refine vo F λfl ls' H' e c=>?_
 cases c using cV with
 | inl c=>refine aL c λu xq1 xq2=>?_;subst xq1;subst xq2;exact lZ (gE rfl az) (h _ e)
 | inr c=>obtain⟨xq3,c⟩:=c;subst xq3;exact eQ (gE rfl az) (h _ e) c
def vD{s:S}{o:Fl×Ls×Hp}{d:Nat}(h:Rs d ls H s o):gH d ls H [s] o:=by
 obtain⟨fl,ls',H'⟩:=o
 cases fl using Fl.casesOn with
 | next=>exact aB h ba
 | cont=>exact pz h
 | ret v=>exact eP h
def Keep.below{ok ok':Nat->Prop}(K:Keep ok H H')(h:∀k,k<H.length->ok' k->ok k):Keep ok' H H':=⟨K.len,λk c o e=>K.at_ k c (h k (bw e) o) e⟩
def HH(S:RdS H r l f tb rw dc t p fs es)(hl:t.length<=1000000)(ha:At t p s)(k:Sk s s')(T:Tok s' w (Mp x) rest)(hw:(([[40],[35,40],[39],[96],[44],[44,64]]:List (List Nat)).all λy=> !decide (y=w))=true)(hd:w≠ [46])(he:w≠ [101,110,100])(hc:w≠ [41])(hy:w≠vw):Rd d H.length H r l f tb rw dc t fs es x1 x2 x rest:=by
 refine wY (z7 (d:=d) (x1:=x1) (x2:=x2) S hl ha k T) λk v a e q bT aq S1 a1 T1 K1 hn hq go=>?_;exact v8 v k w v a e q aq es S1 a1 (hq _ _ hn) .refl (K1.weak λzz o=>o.2.1) T1 (λo F=>wk F λo h=>go _ (qL T1 he (vZ S1 T1 hw hd (cK (fz (gN (cB rfl T1 rfl rfl) az (dE hc)) (i4 rfl S1.hr rfl rfl rfl (bV rfl ao) (RL (d:=d+21) T1 hy))) rfl (vD h)))))
def Lu{y:List Nat}(S:RdS H r l f tb rw dc t p fs es)(hl:t.length<=1000000)(ha:At t p s)(k:Sk s s')(T:Tok s' vw (Ts y) rest)(hy:y∈names):Rd d H.length H r l f tb rw dc t fs es x1 x2 (.sym y) rest:=by
 refine wY (z7 (d:=d) (x1:=x1) (x2:=x2) S hl ha k T) λk v a e q bT aq S1 a1 T1 K1 hn hq go=>?_;subst hq;refine jT (Po (d:=d+19) S1 T1 hy) λk' es' aO e2 S2 sb rp K2=>?_;have nk:k≠rw/\k≠dc:=by refine aL (S1.ht.hr) λrs h zz=>?_;exact⟨aZ T1 h (λe=>nomatch e),aZ T1 S1.ht.hd (λe=>nomatch e)⟩
 exact v8 _ k vw _ a e q aO es' S2 a1 (rp _) sb ((K1.weak λzz o=>o.2.1).trans (K2.weak λzz o=>⟨o.2.2.1,o.2.2.2.1⟩)) (K2.at_ _ _ nk T1) (λo F=>wk F λo h=>go _ (qL T1 (λe=>nomatch e) (vZ S1 T1 rfl (λe=>nomatch e) (cK (fz (gN (cB rfl T1 rfl rfl) az (dE (λe=>nomatch e))) (i4 rfl S1.hr rfl rfl rfl (bV rfl ao) e2)) rfl (vD h)))))
def vX{u:List Nat}(hu:w= [40]/\u=td\/w= [35,40]/\u=Du)(S:RdS H r l f tb rw dc t p fs es)(hn:fs.length<=1000000)(hl:t.length<=1000000)(ha:At t p s)(k:Sk s s')(T:Tok s' w J6 rest):∃k kf kt a q H',RdS H' r l f tb rw dc t q (fs++ [.ref kf]) es/\At t q rest/\FrOk H' kf kt f rw u a 0 (.obj 0) []/\H.length<=kf/\H.length<=kt/\Keep (λi=>i≠l/\i≠f) H H'/\∀o,Rs (d+22) (wO r (some (.ref k)) x2) H' D9 o->Rs (d+22) (wO r x1 x2) H D9 o:=by
 refine wY (z7 (d:=d) (x1:=x1) (x2:=x2) S hl ha k T) λk v a e q bT aq S1 a1 T1 K1 zz zy go=>?_;have c:∃kf kt H',aP (d+22) aq 102 [.ref r, .ref k] (.bool true,H')/\RdS H' r l f tb rw dc t q (fs++ [.ref kf]) es/\FrOk H' kf kt f rw u a 0 (.obj 0) []/\aq.length<=kf/\aq.length<=kt/\Keep (·≠f) aq H':=by
  cases hu using cV with
  | inl h=>obtain⟨xq4,xq5⟩:=h;subst xq4;subst xq5;exact Pt (d:=d+20) S1 hn T1
  | inr h=>obtain⟨xq6,xq7⟩:=h;subst xq6;subst xq7;exact Ps (d:=d+20) S1 hn T1
 have he:w≠ [101,110,100]:=by cases hu using cV with
  | inl h=>erw [h.1];exact λe=>nomatch e
  | inr h=>erw [h.1];exact λe=>nomatch e
 refine Gm c λkf kt H' e2 S2 F h1 h2 K2=>?_;exact Ab k kf kt a q H' S2 a1 F (aj K1.len h1) (aj K1.len h2) ((K1.weak λzz o=>o.1).trans (K2.weak λzz o=>o.2)) (λo h=>uD (gE rfl az) (go _ (qL T1 he (pz (ff (gE rfl (i4 rfl S1.hr rfl rfl rfl (bV rfl ao) e2)) (pz A8))))) h)
def Lw(S:RdS H r l f tb rw dc t p (fs++ [.ref kf]) es)(hn:fs.length+1<=1000000)(F:FrOk H kf kt f rw td a 0 tl vs)(hv:vs≠ [])(hl:t.length<=1000000)(ha:At t p s)(k:Sk s s')(T:Tok s' [46] J6 rest):∃k q H',RdS H' r l f tb rw dc t q (fs++ [.ref kf]) es/\At t q rest/\FrOk H' kf kt f rw td a 1 tl vs/\Keep (λi=>i≠l/\i≠kf) H H'/\∀o,Rs (d+22) (wO r (some (.ref k)) x2) H' D9 o->Rs (d+22) (wO r x1 x2) H D9 o:=by
 refine wY (z7 (d:=d) (x1:=x1) (x2:=x2) S hl ha k T) λk v b e q bT aq S1 a1 T1 K1 zz zy go=>?_;have F1:=F.keep K1 (aZ F.hc S.hl λe=>nomatch e) (aZ F.hk S.hl λe=>nomatch e);refine B3 (RN (d:=d+21) (v:= .ref k) S1 hn F1 hv) λH' e2 S2 F2 K2=>?_;exact iR k q H' S2 a1 F2 ((K1.weak λzz o=>o.1).trans (K2.weak λzz o=>o.2)) (λo h=>uD (gE rfl az) (go _ (qL T1 (λe=>nomatch e) (ie (gE rfl (i4 rfl S1.hr rfl rfl rfl (bV rfl ao) (JW (d:=d+20) T1 rfl))) (pz (ff (gN (cB rfl T1 rfl rfl) az (gd rfl)) (uv (i4 rfl S1.hr rfl rfl rfl (ak (ah rfl) ao) e2) (pz A8))))))) h)
def Ov(S:RdS H r l f tb rw dc t p (fs++ [.ref kf]) es)(hn:fs.length+1<=1000000)(F:FrOk H kf kt f rw w a 0 tl vs)(hw:w≠ [113,117,111,116,97,116,105,111,110])(hv:vs.length<=1000000){v0:AV}(T:Dl H k w' v0 a1 e1):∃H',RdS H' r l f tb rw dc t p (fs++ [.ref kf]) es/\FrOk H' kf kt f rw w a 0 tl (vs++ [v])/\Keep (·≠kt) H H'/\∀o,Rs (d+22) (wO r (some (.ref k)) (some v)) H' D9 o->PH d r k v H o:=by
 refine B3 (Pl (d:=d+21) (v:=v) (a1:=a1) S hn F hw hv) λH' e S' F' K=>?_;exact CG H' S' F' K (λo h=>(Ac _ _ _ (cU (gE rfl (i4 rfl S.hr rfl rfl rfl (bV rfl (ak (cB rfl T rfl rfl) ao)) e)) ba) (.inr ⟨rfl,h⟩)))
def Ow(S:RdS H r l f tb rw dc t p (fs++ [.ref kf]) es)(hn:fs.length+1<=1000000)(F:FrOk H kf kt f rw w a 1 tl vs)(hw:w≠ [113,117,111,116,97,116,105,111,110]){v0:AV}(T:Dl H k w' v0 a1 e1):∃H',RdS H' r l f tb rw dc t p (fs++ [.ref kf]) es/\FrOk H' kf kt f rw w a 2 v vs/\Keep (·≠kf) H H'/\∀o,Rs (d+22) (wO r (some (.ref k)) (some v)) H' D9 o->PH d r k v H o:=by
 refine B3 (Pm (d:=d+21) (v:=v) (a1:=a1) S hn F hw) λH' e S' F' K=>?_;exact CG H' S' F' K (λo h=>(Ac _ _ _ (cU (gE rfl (i4 rfl S.hr rfl rfl rfl (bV rfl (ak (cB rfl T rfl rfl) ao)) e)) ba) (.inr ⟨rfl,h⟩)))
def Ou(S:RdS H r l f tb rw dc t p [] es){v0:AV}(T:Dl H k w' v0 a1 e1):PH d r k v H (.ret v,wO r (some (.ref k)) (some v),H++ [.list []]):=
 (Ac _ _ _ (ff (gE rfl (i4 rfl S.hr rfl rfl rfl (bV rfl (ak (cB rfl T rfl rfl) ao)) (Pj (d:=d+21) S))) (fx (i4 rfl S.hr rfl rfl rfl (bV rfl ao) (RO (d:=d+21) S)))) (.inl (bH _ rfl rfl)))
end
end
section
mutual
variable{c:Nat}{u:List Nat}
variable{d n m:Nat}{H H' aq:Hp}{vs:List AV}{xs:List D}{k r l f tb rw dc kf kt p:Nat}{t w s s' rest:List Nat}{fs:List AV}{es es':List (List Nat×AV)}{v a tz a1 e1:AV}{st:Int}{x y:D}{x1 x2:Option AV}{Q:Qv}
structure Low(l rw dc f m:Nat):Prop where
 l:l<m
 rw:rw<m
 dc:dc<m
 f:f<m
def RdS.low(S:RdS H r l f tb rw dc t p fs es):Low l rw dc f H.length:=by
 refine aL (S.ht.hr) λrs h zz=>?_;exact⟨bw S.hl,bw h,bw S.ht.hd,bw S.hf⟩
def Low.le(h:Low l rw dc f n)(e:n<=m):Low l rw dc f m:=⟨al h.l e,al h.rw e,al h.dc e,al h.f e⟩
def RdS.has(S:RdS H r l f tb rw dc t p fs es)(h:Low l rw dc f m):iD m H (K7 H.length l rw dc f):=by
 refine aL (S.ht.hr) λrs hr zz=>?_;exact λk c e o=>(v9 (bw e) (iD.ne S.hl h.l rfl k c e o) (iD.ne hr h.rw rfl k c e o) (iD.ne S.ht.hd h.dc rfl k c e o) (iD.ne S.hf h.f rfl k c e o))
def jE.move{n':Nat}{ok:Nat->Prop}(r:jE (Nw n H es) H vs xs)(K:Keep ok H H')(h:iD n H ok)(s:Sub es es')(hn:n'<=n):jE (Nw n' H' es') H' vs xs:=r.imp λzz zy q=>q.move K h s hn
def vY(S:RdS H r l f tb rw dc t p (fs++ [.ref kf]) es)(hn:fs.length+1<=1000000)(F:FrOk H kf kt f rw td a st tz vs)(hs:st≠1)(hv:vs.length<=1000000)(hl:t.length<=1000000)(ha:At t p s)(k:Sk s s')(T:Tok s' [41] J6 rest)(low:Low l rw dc f m)(hnm:n<=m)(rs:jE (Nw m H es) H vs xs)(q:gI (Nw m H es) H tz x):Rd d n H r l f tb rw dc t fs es x1 x2 (xs.foldr .pair x) rest:=by
 refine wY (z7 (d:=d) (x1:=x1) (x2:=x2) S hl ha k T) λk v b e q' bT aq S1 a1 T1 K1 zz zy go=>?_;have hL:iD m H (·≠l):=iD.ne S.hl low.l rfl;have F1:=F.keep K1 (aZ F.hc S.hl λe=>nomatch e) (aZ F.hk S.hl λe=>nomatch e);refine fy (Pq (d:=d+19) (v:= .ref k) S1 hn F1 hs hv low.f (rs.move K1 hL .refl (aw _)) (q.move K1 hL .refl (aw _))) λv' aO e2 S2 rp K2=>?_;exact v8 v' k _ _ _ _ q' aO es S2 a1 (rp.move .refl (ok:=all) iD.lt .refl hnm) .refl ((K1.weak λzz o=>o.2.1).trans (K2.weak λzz o=>o.2.2.2.2)) (K2.at_ _ _ (aZ T1 S1.hf λe=>nomatch e) T1) (λo F=>wk F λo h=>go _ (qL T1 (λe=>nomatch e) (vZ S1 T1 rfl (λe=>nomatch e) (cK (eW (gN (cB rfl T1 rfl rfl) az (gd rfl)) (i4 rfl S1.hr rfl rfl rfl (bV rfl ao) e2)) rfl (vD h)))))
def Lr{u z:AV}(S:RdS H r l f tb rw dc t p (fs++ [.ref kf]) es)(hn:fs.length+1<=1000000)(F:FrOk H kf kt f rw Du a 0 tz [u,z])(hl:t.length<=1000000)(ha:At t p s)(k:Sk s s')(T:Tok s' [41] J6 rest)(low:Low l rw dc f m)(hnm:n<=m)(hkt:n<=kt)(rx:gI (Nw m H es) H u x)(ry:gI (Nw m H es) H z y):Rd d n H r l f tb rw dc t fs es x1 x2 (.vec x y) rest:=by
 refine wY (z7 (d:=d) (x1:=x1) (x2:=x2) S hl ha k T) λk v b e q' bT aq S1 a1 T1 K1 zz zy go=>?_;have hL:iD m H (·≠l):=iD.ne S.hl low.l rfl;have F1:=F.keep K1 (aZ F.hc S.hl λe=>nomatch e) (aZ F.hk S.hl λe=>nomatch e);refine fy (Pp (d:=d+19) (v:= .ref k) S1 hn F1) λk' aO e2 S2 hk' K2=>?_;have hF:iD m aq (·≠f):=iD.ne S1.hf low.f rfl;have hkt2:=K2.at_ _ _ F1.nf F1.hk;exact v8 _ k _ _ _ _ q' aO es S2 a1 ((HP k' kt u z rfl (jU hk' rfl (λzz zy h=>nomatch h)) hk' (⟨λc zz=> .inl hkt,λi s e=>nomatch hkt2.symm.trans e⟩) hkt2 ((rx.move K1 hL .refl (aw _)).move K2 hF .refl hnm) ((ry.move K1 hL .refl (aw _)).move K2 hF .refl hnm))) .refl ((K1.weak λzz o=>o.2.1).trans (K2.weak λzz o=>o.2.2.2.2)) (K2.at_ _ _ (aZ T1 S1.hf λe=>nomatch e) T1) (λo F=>wk F λo h=>go _ (qL T1 (λe=>nomatch e) (vZ S1 T1 rfl (λe=>nomatch e) (cK (eW (gN (cB rfl T1 rfl rfl) az (gd rfl)) (i4 rfl S1.hr rfl rfl rfl (bV rfl ao) e2)) rfl (vD h)))))
abbrev PR(x:D):Prop:= ∀{d:Nat} {H:Hp} {r l f tb rw dc p:Nat} {t s rest:List Nat} {fs:List AV} {es:List (List Nat×AV)} {x1 x2:Option AV},RdS H r l f tb rw dc t p fs es->t.length<=1000000->At t p s->Sk s (tx true x++rest)->hZ rest->fs.length+sz x<=900000->Rd d H.length H r l f tb rw dc t fs es x1 x2 x rest
abbrev TR(x:D):Prop:= ∀{d n m:Nat} {H:Hp} {r l f tb rw dc p kf kt:Nat} {t rest:List Nat} {fs vs:List AV} {xs:List D} {es:List (List Nat×AV)} {x1 x2:Option AV} {a:AV},RdS H r l f tb rw dc t p (fs++ [.ref kf]) es->t.length<=1000000->At t p (tl true x++rest)->hZ rest->fs.length+1+sz x<=900000->FrOk H kf kt f rw td a 0 (.obj 0) vs->vs≠ []->vs.length+sz x<=900000->Low l rw dc f m->n<=m->m<=H.length->kf<m->kt<m->n<=kf->n<=kt->jE (Nw m H es) H vs xs->Rd d n H r l f tb rw dc t fs es x1 x2 (xs.foldr .pair x) rest
def hZ.cons(h:p6.contains c=true):hZ (c::rest):=λc' e=>by(replace e:=ae e;subst e);exact h
def iN(h:(nV.contains c || decide (c=59))=false):Sk (c::rest) (c::rest):= .stop (eO.mp h).1 (of_decide_eq_false (eO.mp h).2)
def FrOk.read(S:RdS H r l f tb rw dc t p fs es)(F:FrOk H kf kt f rw u a st tz vs)(K:Keep (K7 H.length l rw dc f) H H'):FrOk H' kf kt f rw u a st tz vs:=by
 refine aL (S.ht.hr) λrs hr zz=>?_;exact F.keep K (v9 (bw F.hc) (aZ F.hc S.hl (λe=>nomatch e)) (aZ F.hc hr (λe=>nomatch e)) (aZ F.hc S.ht.hd (λe=>nomatch e)) (aZ F.hc S.hf (λe=>nomatch e))) ⟨bw F.hk,aZ F.hk S.hl (λe=>nomatch e),F.nr,aZ F.hk S.ht.hd (λe=>nomatch e),F.nf⟩
def K7.up{i:Nat}(h:K7 n l rw dc f i)(e:n<=m):K7 m l rw dc f i:=⟨al h.1 e,h.2⟩
def Ir(P:PR x)(S:RdS H r l f tb rw dc t p (fs++ [.ref kf]) es)(hl:t.length<=1000000)(ha:At t p s)(k:Sk s (tx true x++rest))(hs:hZ rest)(hn:fs.length+1+sz x<=900000)(F:FrOk H kf kt f rw u a 0 tz vs)(hu:u≠ [113,117,111,116,97,116,105,111,110])(hv:vs.length<=1000000)(hm:m<=H.length)(h2:kt<m)(h4:n<=kt)(hnm:n<=m):∃v k q H' es',RdS H' r l f tb rw dc t q (fs++ [.ref kf]) es'/\At t q rest/\gI (Nw m H' es') H' v x/\Sub es es'/\Keep (λi=>K7 H.length l rw dc f i/\i≠kt) H H'/\FrOk H' kf kt f rw u a 0 tz (vs++ [v])/\∀o,Rs (d+22) (wO r (some (.ref k)) (some v)) H' D9 o->Rs (d+22) (wO r x1 x2) H D9 o:=by
 refine wX (P (d:=d) (x1:=x1) (x2:=x2) S hl ha k hs (by erw [af];exact hn)) λv k w v0 b e q aq tI S1 a1 r1 sb K1 T1 go=>?_;refine B3 (Ov (d:=d) (v:=v) S1 (by exact(bE bf cX [(aJ bf ay,aG 900000)] aR hn)) (F.read S K1) hu hv T1) λaO S2 F2 K2 go2=>?_;exact EV v k q aO tI S2 a1 (r1.move K2 (iD.ne (F.read S K1).hk (al h2 hm) rfl) .refl hm) sb ((K1.weak λzz o=>o.1).trans (K2.weak λzz o=>o.2)) F2 (λo h=>go o (go2 o h))
def iS(P:PR x)(h:tl true x= [32,46,32]++tx true x++ [41])(hx:∃c u,tx true x=c::u/\(nV.contains c || decide (c=59))=false):TR x:=by
 intro d n m H r l f tb rw dc p kf kt t rest fs vs xs es x1 x2 a S hl ha hs hn F hv hvn low hnm hm h1 h2 h3 h4 rs;refine gy hx λc u hx hc=>?_;rw[h,aA,aA]at ha;refine jT (Lw (d:=d) (x1:=x1) (x2:=x2) (kf:=kf) S (by exact(bE bf cX [(aJ bf ay,aG 900000)] aR hn)) F hv hl ha (.blank rfl (by decide) (iN rfl)) (GD (r:=32::(tx true x++([41]++rest))) (hZ.cons rfl))) λk q aq S1 a1 F1 K1 go1=>?_;have hK:iD m H (λi=>i≠l/\i≠kf):=iD.and (iD.ne S.hl low.l rfl) (iD.ne F.hc h1 rfl);refine wX (P (d:=d) (x1:=some (.ref k)) (x2:=x2) (rest:= [41]++rest) S1 hl a1 (.blank rfl (by decide) (by erw [hx];exact iN hc)) (hZ.cons rfl) (by erw [af];exact hn)) λv k2 w v0 b e q2 aO pY S2 a2 r2 sb K2 T2 go2=>?_;refine B3 (Ow (d:=d) (v:=v) S2 (by exact(bE bf cX [(aJ bf ay,aG 900000)] aR hn)) (F1.read S1 K2) (λe=>nomatch e) T2) λdK S3 F3 K3 go3=>?_;have hm1:m<=aq.length:=aj hm K1.len;have hm2:m<=aO.length:=aj hm1 K2.len;have hk3:iD m aO (·≠kf):=iD.ne (F1.read S1 K2).hc h1 rfl;have rs3:jE (Nw m dK pY) dK vs xs:=((rs.move K1 hK .refl (aw _)).move K2 (S1.has low) sb (aw _)).move K3 hk3 .refl (aw _);refine wX (vY (d:=d) (n:=n) (x1:=some (.ref k2)) (x2:=some v) S3 (by exact(bE bf cX [(aJ bf ay,aG 900000)] aR hn)) F3 (λe=>nomatch e) (by exact(bE ai cX [(aJ ai ay,aG 900000)] aR hvn)) hl a2 (iN rfl) (lX rfl) low hnm rs3 ((r2.move .refl (ok:=all) iD.lt .refl hm1).move K3 hk3 .refl (aw _))) λv4 k4 w4 v04 b4 e4 q4 mJ pX S4 a4 r4 sb4 K4 T4 go4=>?_;exact v8 v4 k4 w4 v04 b4 e4 q4 mJ pX S4 a4 r4 (sb.trans sb4) ((K1.weak λi o=>⟨o.2.1,aC (al o.1 h3)⟩).trans ((K2.weak λi o=>o.up (aj hnm hm1)).trans ((K3.weak λi o=>aC (al o.1 h3)).trans K4))) T4 (λo F=>go1 o (go2 o (go3 o (go4 o F))))
def Dy:TR .empty:=by
 intro d n m H r l f tb rw dc p kf kt t rest fs vs xs es x1 x2 a S hl ha hs hn F hv hvn low hnm hm h1 h2 h3 h4 rs;have ha':At t p (41::rest):=ha;exact vY S (by lia) F (λe=>nomatch e) (by lia) hl ha' (iN rfl) (lX rfl) low hnm rs rfl
def Gz{b:D}(P:PR x)(T:TR b)(hx:∃c u,tx true x=c::u/\(nV.contains c || decide (c=59))=false)(ht:∀r,hZ (tl true b++r)):TR (.pair x b):=by
 intro d n m H r l f tb rw dc p kf kt t rest fs vs xs es x1 x2 a S hl ha hs hn F hv hvn low hnm hm h1 h2 h3 h4 rs;have hz:sz (D.pair x b)=3+sz x+sz b:=rfl;refine gy hx λc u hx hc=>?_;have ha':At t p (32::(tx true x++(tl true b++rest))):=by
  rw[show tl true (D.pair x b)= [32]++tx true x++tl true b from rfl,aA,aA]at ha;exact ha
 refine wZ (Ir (d:=d) (n:=n) (x1:=x1) (x2:=x2) P S hl ha' (.blank rfl (by decide) (by erw [hx];exact iN hc)) (ht _) (by exact(gU (aJ bf ay) (aG 900000) [((aJ (aJ (aG 3) ay) bF),cP),(aJ bf cP,aG 900000)] aR (lq hz) hn)) F (λe=>nomatch e) (by exact(bE ai cX [(aJ ai ay,aG 900000)] aR hvn)) hm h2 h4 hnm) λv k q aq tI S1 a1 r1 sb K1 F1 go=>?_;have rs1:jE (Nw m aq tI) aq vs xs:=rs.move K1 (iD.and (S.has low) (iD.ne F.hk h2 rfl)) sb (aw _);refine wX (T (d:=d) (n:=n) (x1:=some (.ref k)) (x2:=some v) S1 hl a1 hs (by exact(gU (aJ bf ay) (aG 900000) [((aJ (aJ (aG 3) bF) ay),cP),(aJ bf cP,aG 900000)] aR (lq hz) hn)) F1 (λe=>nomatch (q6.mp e).2) (by erw [af];show _+1+_<=_;exact(gU (aJ bf ay) (aG 900000) [((aJ (aJ (aG 3) bF) ay),cP),(aJ ai cP,aG 900000)] aR (lq hz) hvn)) low hnm (aj hm K1.len) h1 h2 h3 h4 (rs1.add r1)) λv4 k4 w4 v04 b4 e4 q4 mJ pX S4 a4 r4 sb4 K4 T4 go4=>?_;rw[List.foldr_append]at r4;exact v8 v4 k4 w4 v04 b4 e4 q4 mJ pX S4 a4 r4 (sb.trans sb4) ((K1.weak λi o=>⟨o.up (aj hnm hm),aC (al o.1 h4)⟩).trans K4) T4 (λo F=>go o (go4 o F))
end
end
mutual
def G5{x b:D}(P:PR x)(T:TR b)(hx:∃c u,tx true x=c::u/\(nV.contains c || decide (c=59))=false)(ht:∀r,hZ (tl true b++r)):PR (.pair x b):=by
 intro d H r l f tb rw dc p t s rest fs es x1 x2 S hl ha hk hs hn;have hz:sz (D.pair x b)=3+sz x+sz b:=rfl;refine gy hx λc u hx hc=>?_;have hk':Sk s (40::(tx true x++(tl true b++rest))):=by
  rw[show tx true (D.pair x b)= [40]++tx true x++tl true b from rfl,aA,aA]at hk;exact hk
 refine Dn (vX (d:=d) (x1:=x1) (x2:=x2) (.inl ⟨rfl,rfl⟩) S (by exact(bE ai cX [(aJ ai ay,aG 900000)] aR hn)) hl ha hk' (lX rfl)) λk0 kf kt a q0 bT S0 a0 F0 hf0 ht0 K0 go0=>?_;refine wZ (Ir (d:=d) (n:=H.length) (m:=bT.length) (x1:=some (.ref k0)) (x2:=x2) P S0 hl a0 (by erw [hx];exact iN hc) (ht _) (by exact(gU (aJ bf ay) (aG 900000) [((aJ (aJ (aG 3) ay) bF),cP),(aJ ai cP,aG 900000)] aR (lq hz) hn)) F0 (λe=>nomatch e) (aX _) (aw _) (bw F0.hk) ht0 K0.len) λv k q aq tI S1 a1 r1 sb K1 F1 go1=>?_;refine wX (T (d:=d) (n:=H.length) (m:=bT.length) (x1:=some (.ref k)) (x2:=some v) S1 hl a1 hs (by exact(gU (aJ bf ay) (aG 900000) [((aJ (aJ (aG 3) bF) ay),cP),(aJ ai cP,aG 900000)] aR (lq hz) hn)) F1 (λe=>nomatch (q6.mp e).2) (by show 1+_<=_;exact(gU (aJ (aG 1) ai) (aG 900000) [((aJ (aJ (aG 3) ay) ai),bF),(aJ cP bF,aG 900000)] aR (lq hz) hn)) (S.low.le K0.len) K0.len K1.len (bw F0.hc) (bw F0.hk) hf0 ht0 (jE.nil.add r1)) λv4 k4 w4 v04 b4 e4 q4 mJ pX S4 a4 r4 sb4 K4 T4 go4=>?_;exact v8 v4 k4 w4 v04 b4 e4 q4 mJ pX S4 a4 r4 (sb.trans sb4) ((K0.weak λi o=>⟨o.2.1,o.2.2.2.2⟩).trans ((K1.weak λi o=>⟨o.up K0.len,aC (al o.1 ht0)⟩).trans K4)) T4 (λo F=>go0 o (go1 o (go4 o F)))
def Ed:PR .empty:=by
 intro d H r l f tb rw dc p t s rest fs es x1 x2 S hl ha hk hs hn;have hz:sz D.empty=1:=rfl;have hk':Sk s (40::41::rest):=hk;refine Dn (vX (d:=d) (x1:=x1) (x2:=x2) (.inl ⟨rfl,rfl⟩) S (by lia) hl ha hk' (lX rfl)) λk0 kf kt a q0 bT S0 a0 F0 hf0 ht0 K0 go0=>?_;refine wX (vY (d:=d) (n:=H.length) (m:=bT.length) (x:= .empty) (x1:=some (.ref k0)) (x2:=x2) S0 (by exact al hn (ab rfl)) F0 (λe=>nomatch e) (aX _) hl a0 (iN rfl) (lX rfl) (S.low.le K0.len) K0.len jE.nil rfl) λv4 k4 w4 v04 b4 e4 q4 mJ pX S4 a4 r4 sb4 K4 T4 go4=>?_;exact v8 v4 k4 w4 v04 b4 e4 q4 mJ pX S4 a4 r4 sb4 ((K0.weak λi o=>⟨o.2.1,o.2.2.2.2⟩).trans K4) T4 (λo F=>go0 o (go4 o F))
def KT{x b:D}(P:PR x)(Q:PR b)(hx:∃c u,tx true x=c::u/\(nV.contains c || decide (c=59))=false)(hb:∃c u,tx true b=c::u/\(nV.contains c || decide (c=59))=false):PR (.vec x b):=by
 intro d H r l f tb rw dc p t s rest fs es x1 x2 S hl ha hk hs hn;have hz:sz (D.vec x b)=4+sz x+sz b:=rfl;refine gy hx λc u hx hc=>?_;refine gy hb λc' u' hb hc'=>?_;have hk':Sk s (35::40::(tx true x++(32::(tx true b++(41::rest))))):=by
  rw[show tx true (D.vec x b)= [35,40]++tx true x++ [32]++tx true b++ [41]from rfl,aA,aA,aA,aA]at hk;exact hk
 refine Dn (vX (d:=d) (x1:=x1) (x2:=x2) (.inr ⟨rfl,rfl⟩) S (by exact(bE ai cX [(aJ ai ay,aG 900000)] aR hn)) hl ha hk' GA) λk0 kf kt a q0 bT S0 a0 F0 hf0 ht0 K0 go0=>?_;refine wZ (Ir (d:=d) (n:=H.length) (m:=bT.length) (x1:=some (.ref k0)) (x2:=x2) P S0 hl a0 (by erw [hx];exact iN hc) (hZ.cons rfl) (by exact(gU (aJ bf ay) (aG 900000) [((aJ (aJ (aG 4) ay) bF),cP),(aJ ai cP,aG 900000)] aR (lq hz) hn)) F0 (λe=>nomatch e) (aX _) (aw _) (bw F0.hk) ht0 K0.len) λv k q aq tI S1 a1 r1 sb K1 F1 go1=>?_;refine wZ (Ir (d:=d) (n:=H.length) (m:=bT.length) (x1:=some (.ref k)) (x2:=some v) Q S1 hl a1 (.blank rfl (by decide) (by erw [hb];exact iN hc')) (hZ.cons rfl) (by exact(gU (aJ bf ay) (aG 900000) [((aJ (aJ (aG 4) bF) ay),cP),(aJ ai cP,aG 900000)] aR (lq hz) hn)) F1 (λe=>nomatch e) (by show 1<=_;exact eE ..) K1.len (bw F0.hk) ht0 K0.len) λw k2 q2 aO pY S2 a2 r2 sb2 K2 F2 go2=>?_;have r1':gI (Nw bT.length aO pY) aO v x:=r1.move K2 (iD.and (S1.has (S.low.le K0.len)) (iD.ne F1.hk (bw F0.hk) rfl)) sb2 (aw _);refine wX (Lr (d:=d) (n:=H.length) (m:=bT.length) (x1:=some (.ref k2)) (x2:=some w) S2 (by exact(bE bf cX [(aJ ai ay,aG 900000)] aR hn)) F2 hl a2 (iN rfl) (lX rfl) (S.low.le K0.len) K0.len ht0 r1' r2) λv4 k4 w4 v04 b4 e4 q4 mJ pX S4 a4 r4 sb4 K4 T4 go4=>?_;exact v8 v4 k4 w4 v04 b4 e4 q4 mJ pX S4 a4 r4 ((sb.trans sb2).trans sb4) ((K0.weak λi o=>⟨o.2.1,o.2.2.2.2⟩).trans ((K1.weak λi o=>⟨o.up K0.len,aC (al o.1 ht0)⟩).trans ((K2.weak λi o=>⟨o.up (aj K0.len K1.len),aC (al o.1 ht0)⟩).trans K4))) T4 (λo F=>go0 o (go1 o (go2 o (go4 o F))))
def rU{x:D}{w:List Nat}(T:∀rest,hZ rest->Tok (tx true x++rest) w (Mp x) rest)(hw:(([[40],[35,40],[39],[96],[44],[44,64]]:List (List Nat)).all λy=> !decide (y=w))=true)(hd:w≠ [46])(he:w≠ [101,110,100])(hc:w≠ [41])(hy:w≠vw):PR x:=by
 intro d H r l f tb rw dc p t s rest fs es x1 x2 S hl ha hk hs hn;exact HH S hl ha hk (T rest hs) hw hd he hc hy
def zI{x:D}{w:List Nat}(hw:tx true x=w)(N:NumW w)(h:MR w x):PR x:=
 fun{d H r l f tb rw dc p t s rest fs es x1 x2}=>rU (w:=El) (λrest hs=>by rw[hw];exact GB N h hs) rfl (λe=>nomatch e) (λe=>nomatch e) (λe=>nomatch e) (λe=>nomatch e)
def Ae{w:List Nat}(N:NumW w):∃c u,w=c::u/\(nV.contains c || decide (c=59))=false:=by
 have t:∀c<58,45<=c->(nV.contains c || decide (c=59))=false:=by decide
 refine gy (N.hd) λc u e h=>?_;refine kS c u e ?_
 cases h using cV with
 | inl h=>exact t c h.2 (aj (by decide) h.1)
 | inr h=>erw [h];rfl
def zR{i:Int}(hi:i.natAbs<=1000):NumW (dG i):=by
 have:=xE hi (u:= []) (λzz m=>nomatch m) (aX _);rw[bq]at this;exact this
def Ek{p:Int}{n:Nat}(hp:p.natAbs<=1000)(hn:n<=1000):NumW (dG p++47::bQ n):=by
 refine vp (jK hn) λh1 h2 h3 h4=>?_;exact xE hp (λc m=>(aQ.mp m).elim (λe=> .inr (.inr e)) λm=> .inl (h1 c m)) (by erw [aI];exact(cz bf (aG 900) [(ai,aG 4)] aR h3))
def se{p:Int}{n:Nat}:tx true (.ratio p n)=dG p++47::bQ n:=by
 show dG p++ [47]++bQ n=_
 erw [aA];rfl
def Gs:(names.all λw=>match w with | c::_=> !(nV.contains c || decide (c=59)) | []=>false)=true:=by decide+kernel
def gP:∀(x:D),x.good->∃c u,tx true x=c::u/\(nV.contains c || decide (c=59))=false
 | .bool b,_=>(kS 35 _ rfl rfl)
 | .int i,g=>Ae (zR (by have:-1000<=i/\i<1000:=g;exact(pK (eB [_] [] 0 (.ik 0) (.ip (.iv 0) (.ic (aG 1000))) (.hz (.ik (-1000)) (.iv 0) .ho) (by kernel_rfl) this.1) (eB [_] [] 0 (.iv 0) (.ic (aG 1000)) (.hz (.ip (.iv 0) (.ik 1)) (.ik 1000) .ho) (by kernel_rfl) this.2))))
 | .empty,_=>(kS 40 _ rfl rfl)
 | .ratio p q,g=>by
  have g:2<=q/\q<10/\∃k:Int,-10<=k/\k<10/\p=q*k+1:=g;refine Go (pC g.1 g.2.1 g.2.2) λn xq1 h1 h2 h3 h4=>?_;subst xq1
  erw [se]
  exact Ae (Ek h3 h2)
 | .real m e,g=>Ae (uJ g)
 | .sym s,g=>by
  have h:=aS.mp Gs s g
  cases s using au with
  | nil=>exact nomatch h
  | cons c u=>exact kS c u rfl (m5 h)
 | .char c,_=>(kS 35 _ rfl rfl)
 | .text cs,_=>(kS 34 _ rfl rfl)
 | .vec a b,_=>(kS 35 _ rfl rfl)
 | .pair a b,_=>(kS 40 _ rfl rfl)
def AW(x:D)(r:List Nat):hZ (tl true x++r):=by
 induction x using D.casesOn <;> exact hZ.cons (c:=_) rfl
def sR:∀(x:D),x.good->PR x/\TR x
 | .bool b,g=>have P:PR (.bool b):=rU (w:=Md) (λrest hs=>DC (c:=if b then 116 else 102) (by induction b using aE <;> rfl)) rfl (λe=>nomatch e) (λe=>nomatch e) (λe=>nomatch e) (λe=>nomatch e)
  ⟨P,iS P rfl (gP _ g)⟩
 | .int i,g=>have h:i.natAbs<=1000:=by have:-1000<=i/\i<1000:=g;exact(pK (eB [_] [] 0 (.ik 0) (.ip (.iv 0) (.ic (aG 1000))) (.hz (.ik (-1000)) (.iv 0) .ho) (by kernel_rfl) this.1) (eB [_] [] 0 (.iv 0) (.ic (aG 1000)) (.hz (.ip (.iv 0) (.ik 1)) (.ik 1000) .ho) (by kernel_rfl) this.2))
  have P:PR (.int i):=zI (w:=dG i) rfl (zR h) (Hl h)
  ⟨P,iS P rfl (gP _ g)⟩
 | .empty,_=>⟨Ed,Dy⟩
 | .ratio p q,g=>by
  have g':2<=q/\q<10/\∃k:Int,-10<=k/\k<10/\p=q*k+1:=g;refine Go (pC g'.1 g'.2.1 g'.2.2) λn xq2 h1 h2 h3 h4=>?_;subst xq2;have P:PR (.ratio p n):=zI se (Ek h3 h2) (Cr h3 h1 h2 h4);exact⟨P,iS P rfl (gP _ g)⟩
 | .real m e,g=>have P:PR (.real m e):=zI (w:=fP m e) rfl (uJ g) (Ej g)
  ⟨P,iS P rfl (gP _ g)⟩
 | .sym s,g=>have P:PR (.sym s):=fun{d H r l f tb rw dc p t s' rest fs es x1 x2} S hl ha hk hs hn=>Lu S hl ha hk (DA g hs) g
  ⟨P,iS P rfl (gP _ g)⟩
 | .char c,g=>have P:PR (.char c):=rU (w:=Fx) (λrest hs=>DB hs) rfl (λe=>nomatch e) (λe=>nomatch e) (λe=>nomatch e) (λe=>nomatch e)
  ⟨P,iS P rfl (gP _ g)⟩
 | .text cs,g=>have P:PR (.text cs):=rU (w:=DH) (λrest hs=>Dz (aj g.1 (ab rfl))) rfl (λe=>nomatch e) (λe=>nomatch e) (λe=>nomatch e) (λe=>nomatch e)
  ⟨P,iS P rfl (gP _ g)⟩
 | .vec a b,g=>have P:PR (.vec a b):=KT (sR a g.1).1 (sR b g.2).1 (gP a g.1) (gP b g.2)
  ⟨P,iS P rfl (gP _ g)⟩
 | .pair a b,g=>⟨G5 (sR a g.1).1 (sR b g.2).2 (gP a g.1) (AW b),Gz (sR a g.1).1 (sR b g.2).2 (gP a g.1) (AW b)⟩
end
section
mutual
variable{d n m:Nat}{H H' aq:Hp}{k r l f tb rw dc p:Nat}{t s s' rest:List Nat}{es es':List (List Nat×AV)}{v:AV}{x:D}
structure RI(H:Hp)(r l tb rw dc:Nat)(t:List Nat)(p:Nat)(es:List (List Nat×AV)):Prop where
 hr:∃f,Hk H r (.n 23 [(46, .ref l),(47, .ref tb),(48, .ref f)])
 hl:Lx H l t p
 ht:Tb H tb rw dc es
def RdS.idle{fs:List AV}(S:RdS H r l f tb rw dc t p fs es):RI H r l tb rw dc t p es:=⟨⟨f,S.hr⟩,S.hl,S.ht⟩
abbrev Js(n r l rw dc i:Nat):Prop:=i<n/\i≠r/\i≠l/\i≠rw/\i≠dc
def RI.start(S:RI H r l tb rw dc t p es):∃H',Rs (d+22) [some (.ref r),none,none,none,none] H (.aS (.aT (.v 0) 48) (.list [])) (.next,[some (.ref r),none,none,none,none],H')/\RdS H' r l H.length tb rw dc t p [] es/\Keep (·≠r) H H':=by
 obtain⟨f,hr⟩:=S.hr;refine aL (S.ht.hr) λrs hw hwl=>?_;have K:Keep (·≠r) H ((H++ [Cell.list []]).set r (.n 23 [(46, .ref l),(47, .ref tb),(48, .ref H.length)])):=Keep.app.trans (Keep.set λo=>o rfl);have r0:r<H.length:=bw hr;exact eF _ (iT (fK ao (aM (aX _))) (jC (ah rfl) (bC hr) rfl rfl)) (⟨cO (by erw [af];exact gK r0),K.at_ _ _ (aZ S.hl hr λe=>nomatch e) S.hl,cW (aC r0) aU,S.ht.keep K (aZ S.ht.ht hr λe=>nomatch e) (aZ hw hr λe=>nomatch e) (aZ S.ht.hd hr λe=>nomatch e) (λk n s h=>aZ h hr λe=>nomatch e),Ne.symm (aC (bw hw))⟩) K
def S6(g:x.good)(S:RI H r l tb rw dc t p es)(hl:t.length<=1000000)(ha:At t p s)(hk:Sk s (tx true x++rest))(hs:hZ rest)(hn:sz x<=900000):∃v q H' es',aP (d+23) H 99 [.ref r] (v,H')/\RI H' r l tb rw dc t q es'/\At t q rest/\gI (Nw H.length H' es') H' v x/\Sub es es'/\Keep (Js H.length r l rw dc) H H':=by
 refine dq (S.start (d:=d)) λaq e1 S1 K1=>?_;refine wX ((sR x g).1 (d:=d) (x1:=none) (x2:=none) S1 hl ha hk hs (by show 0+_<=_;exact(cz (aJ (aG 0) ai) (aG 900000) [(ai,aG 900000)] aR hn))) λv k w v0 a e q aO pY S2 a2 r2 sb K2 T2 go=>?_;have h:=go _ (Ou S2 T2);have K:Keep (Js H.length r l rw dc) H aO:=(K1.weak λi o=>o.2.1).trans (K2.weak λi o=>(v9 (al o.1 K1.len) o.2.2.1 o.2.2.2.1 o.2.2.2.2 (aC o.1)));exact QD v q _ pY (bx (F:=QZ) rfl rfl rfl (aB e1 (eP h))) ((S2.more Keep.app).idle) a2 (r2.move (ok:=all) Keep.app iD.lt .refl K1.len) sb (K.trans Keep.app)
def O4(S:RI H r l tb rw dc t p es)(hl:t.length<=1000000)(ha:At t p s)(hk:Sk s []):∃q H',aP (d+23) H 99 [.ref r] (.obj 1,H')/\RI H' r l tb rw dc t q es/\Keep (Js H.length r l rw dc) H H':=by
 refine dq (S.start (d:=d)) λaq e1 S1 K1=>?_;refine wY (z7 (d:=d) (x1:=none) (x2:=none) S1 hl ha hk GC) λk v a e q bT aO S2 a2 T2 K2 zz zy go=>?_;have K:Keep (Js H.length r l rw dc) H aO:=(K1.weak λi o=>o.2.1).trans (K2.weak λi o=>o.2.2.1);exact i5 q _ (bx (F:=QZ) rfl rfl rfl (aB e1 (eP (lZ (gE rfl az) (go _ (mu (gN (cB rfl T2 rfl rfl) az (gd rfl)) (mu (GG (cB rfl S2.hr rfl rfl) S2.hf) (fx az)))))))) ((S2.more Keep.app).idle) (K.trans Keep.app)
def Bo{ok:Nat->Prop}(x:D)(h:gI ok H v x):Dk v (.obj 1)=some false:=by
 cases x using D.casesOn with
 | bool zz=>cases (h:v=_);rfl
 | int zz=>cases (h:v=_);rfl
 | empty=>cases (h:v=_);rfl
 | ratio zz zy=>refine aL h λzz xq1 zy=>?_;subst xq1;rfl
 | real zz zy=>refine aL h λzz xq2 zy=>?_;subst xq2;rfl
 | sym zz=>refine gy h λzz zy xq3 zx=>?_;subst xq3;rfl
 | char zz=>refine aL h λzz xq4 zy=>?_;subst xq4;rfl
 | text zz=>refine gy h λzz zy xq5 zx=>?_;subst xq5;rfl
 | vec zz zy=>refine Nc h λzz zy zx zw xq6 zv=>?_;subst xq6;rfl
 | pair zz zy=>refine vo h λzz zy zx xq7 zw=>?_;subst xq7;rfl
def T9:aP (d+1) (H++ [.n 21 []]) 85 [.ref H.length, .str t, .int 53, .bool true] (.none,H++ [.n 21 [(13, .str t),(42, .int 53),(26, .int 0),(43, .bool true)]]):=fB (F:=Sn) rfl rfl rfl (aB (dS rfl (ah rfl) rfl rfl) (aB (dS rfl (ah rfl) rfl rfl) (aB (dS rfl az rfl rfl) (aB (dS rfl (ah rfl) rfl rfl) ba))))
def xo{ls:Ls}{a:E}{c g:Nat}{gs:List (Nat×AV)}(h0:ls[0]? =some (some (.ref r)))(h:Re d ls H a (v,aq))(hr:Hk aq r (.n c gs))(hf:wQ P c g=true)(hl:cf gs.length 20=true):∃H',Rs d ls H (.aS (.aT (.v 0) g) a) (.next,ls,H')/\Hk H' r (.n c (oH g v gs))/\Keep (·≠r) aq H':=
 (eF _ (iT h (jC (ah h0) hr hf hl)) (cO (bw hr)) (Keep.set λo=>o rfl))
def S7(T:Tb H tb rw dc es):∃l H',aP (d+2) (H++ [.n 23 []]) 97 [.ref H.length, .str t, .ref tb, .int 53, .bool true] (.none,H')/\RI H' H.length l tb rw dc t 0 es/\H.length<=l/\Keep (· <H.length) H H':=by
 refine dq (xo (d:=d+1) (H:=H++ [.n 23 []]) (r:=H.length) (ls:= [some (.ref H.length),some (.str t),some (.ref tb),some (.int 53),some (.bool true),none,none]) (g:=46) rfl (gG (i:=21) (ak (ah (i:=1) rfl) (ak (ah (i:=3) rfl) (ak (ah (i:=4) rfl) ao))) rfl (T9 (t:=t))) (bC aU) rfl rfl) λH1 i1 g1 K1=>?_;refine dq (xo (d:=d+1) (H:=H1) (r:=H.length) (ls:= [some (.ref H.length),some (.str t),some (.ref tb),some (.int 53),some (.bool true),none,none]) (g:=47) rfl (ah (i:=2) rfl) g1 rfl rfl) λH2 i2 g2 K2=>?_;refine dq (xo (d:=d+1) (H:=H2) (r:=H.length) (ls:= [some (.ref H.length),some (.str t),some (.ref tb),some (.int 53),some (.bool true),none,none]) (g:=48) rfl (fK ao (aM (aX _))) (bC g2) rfl rfl) λH3 i3 g3 K3=>?_;have K:Keep (·≠H.length) (H++ [Cell.n 23 []]++ [Cell.n 21 [(13,AV.str t),(42,AV.int 53),(26,AV.int 0),(43,AV.bool true)]]) H3:=K1.trans (K2.trans (Keep.app.trans K3));have hl:H.length<(H++ [Cell.n 23 []]).length:=by erw [af];exact cI _
 have Kb:Keep (· <H.length) H H3:=Keep.app.trans (Keep.app.trans (K.weak λi o=>aC o));refine aL (T.hr) λrs hw zz=>?_;exact d0 _ H3 (fB (F:=Se) rfl rfl rfl (aB i1 (aB i2 (aB i3 ba)))) (⟨⟨_,g3⟩,K.at_ _ _ (Ne.symm (aC hl)) aU,T.keep Kb (bw T.ht) (bw hw) (bw T.hd) λk n s h=>bw h⟩) (d5 hl) Kb
def c3:∃rw dc H',aP (d+1) (H++ [.n 2 []]) 3 [.ref H.length] (.none,H')/\Tb H' H.length rw dc []/\H.length<=rw/\H.length<=dc/\Keep (· <H.length) H H':=by
 refine dq (xo (d:=d) (H:=H++ [.n 2 []]) (r:=H.length) (ls:= [some (.ref H.length),none,none]) (g:=14) rfl (fK ao (aM (aX _))) (bC aU) rfl rfl) λH1 i1 g1 K1=>?_;refine dq (xo (d:=d) (H:=H1) (r:=H.length) (ls:= [some (.ref H.length),none,none]) (g:=15) rfl Iu (bC g1) rfl rfl) λH2 i2 g2 K2=>?_;have hl:H.length<(H++ [Cell.n 2 []]).length:=by erw [af];exact cI _
 have l1:(H++ [Cell.n 2 []]).length<=H1.length:=aj (Keep.app (ok:=all) (L:= [Cell.list []])).len K1.len;have hr:Hk H2 ((H++ [Cell.n 2 []]).length) (.list []):=K2.at_ _ _ (Ne.symm (aC hl)) (bC (K1.at_ _ _ (Ne.symm (aC hl)) aU));have hd:Hk H2 (H1.length) (.dict []):=K2.at_ _ _ (Ne.symm (aC (al hl l1))) aU;exact iR _ _ H2 (fB (F:=f3) rfl rfl rfl (aB i1 (aB i2 ba))) (⟨g2,⟨[],hr,by decide⟩,by decide,hd,λs v h=>nomatch h⟩) (d5 hl) (d5 (al hl l1)) (Keep.app.trans (Keep.app.trans ((K1.weak λi o=>aC o).trans (Keep.app.trans (K2.weak λi o=>aC o)))))
end
end
mutual
class inductive Sq:List Nat->List D->Prop
 | nil {s:List Nat}:Sk s []->Sq s []
 | cons {s rest:List Nat} {x:D} {xs:List D}:Sk s (tx true x++rest)->hZ rest->x.good->sz x<=900000->Sq rest xs->Sq s (x::xs)
end
section
mutual
variable{N:Nat}
variable{d n m:Nat}{H H' aq:Hp}{k r l f tb rw dc p:Nat}{t s s' rest:List Nat}{es es':List (List Nat×AV)}{v:AV}{x:D}
def TV(S:RI H r l tb rw dc t p es):aP (d+1) H 98 [.ref r] (.int p,H):=by
 obtain⟨f,hr⟩:=S.hr;exact bx (F:=Sd) rfl rfl rfl (fx (c9 (cB rfl hr rfl rfl) S.hl rfl rfl))
def RI.low(S:RI H r l tb rw dc t p es):rw<H.length/\dc<H.length:=by
 refine aL (S.ht.hr) λrs h zz=>?_;exact⟨bw h,bw S.ht.hd⟩
def Keep.outer{n:Nat}{ok:Nat->Prop}(K:Keep (Js n r l rw dc) H H')(h1:N<=n)(h2:N<=r)(h3:N<=l):Keep (λi=>i<N/\i≠rw/\i≠dc) H H':=K.weak λi o=>(Ad (al o.1 h1) (aC (al o.1 h2)) (aC (al o.1 h3)) o.2)
def wc(S:RI H r l tb rw dc t p es)(hr:r<m)(hl:l<m)(hrw:rw<m)(hdc:dc<m):iD m H (Js H.length r l rw dc):=by
 obtain⟨f,h⟩:=S.hr;refine aL (S.ht.hr) λrs hw zz=>?_;exact λk c e o=>(v9 (bw e) (iD.ne h hr rfl k c e o) (iD.ne S.hl hl rfl k c e o) (iD.ne hw hrw rfl k c e o) (iD.ne S.ht.hd hdc rfl k c e o))
def RJ(g:x.good)(T:Tb H tb rw dc es)(hl:t.length<=1000000)(hk:Sk t (tx true x++rest))(hs:hZ rest)(he:Sk rest [])(hn:sz x<=900000):∃v H' es',aP (d+24) H 108 [.str t, .ref tb] (v,H')/\Tb H' tb rw dc es'/\gI (Nw H.length H' es') H' v x/\Keep (λi=>i<H.length/\i≠rw/\i≠dc) H H':=by
 refine fy (S7 (d:=d+21) (t:=t) T) λl aq e1 S1 hl1 K1=>?_;have n1:H.length<aq.length:=by obtain⟨f,h⟩:=S1.hr;exact bw h
 refine J8 (S6 (d:=d) g S1 hl ⟨rfl,aX _⟩ hk hs hn) λv q aO pY e2 S2 a2 r2 sb K2=>?_;refine dX (O4 (d:=d) S2 hl a2 he) λq3 dK e3 S3 K3=>?_;obtain⟨f1,hr1⟩:=S1.hr;obtain⟨f2,hr2⟩:=S2.hr;refine pR v dK pY (bx (F:=OS) rfl rfl rfl (cK (gG (bV rfl (bV rfl (ak (ah rfl) (ak (ah rfl) ao)))) rfl e1) rfl (cK (i4 rfl hr1 rfl rfl rfl ao e2) rfl (ie (gE rfl (dw (ah rfl) az (Bo x r2))) (aB (iT (gC (ah rfl) hr2 rfl rfl rfl ao (TV (d:=d+22) S2)) (eh rfl)) (aB (cU (gE rfl (dw (gC (ah rfl) hr2 rfl rfl rfl ao e3) az rfl)) ba) (eP (kH (ah rfl))))))))) S3.ht ?_ ?_
 ·exact r2.move K3 (wc S2 n1 (bw S1.hl) S1.low.1 S1.low.2) .refl (d5 n1)
 ·exact(K1.weak λi o=>o.1).trans ((K2.outer (ok:=all) (d5 n1) (aw _) hl1).trans (K3.outer (ok:=all) (aj (d5 n1) K2.len) (aw _) hl1))
noncomputable abbrev Tv:List S:= [(.aS (.v 6) (.meth (.v 4) 49 [])),(.ite (.j .is (.v 6) (.lit (.obj 1))) [(.ret (.v 5))] []),(.expr (.meth (.v 5) 0 [(.v 6)]))]
set_option tactic.hygienic true in
theorem FV{kl:Nat}{l0 l1 l2 l3 l7 l8:Option AV}(hl:t.length<=1000000){ys:List D}(hq:Sq s ys):∀{H:Hp} {p:Nat} {es:List (List Nat×AV)} {vs:List AV} {xs:List D} {x6:Option AV},RI H r l tb rw dc t p es->At t p s->Hk H kl (.list vs)->kl≠rw->vs.length+ys.length<=1000000->r<m->l<m->rw<m->dc<m->kl<m->m<=H.length->N<=r->N<=l->N<=kl->jE (Nw m H es) H vs xs->
  ∃ws H' es' ls',Rs (d+23) [l0,l1,l2,l3,some (.ref r),some (.ref kl),x6,l7,l8] H (.while (.lit (.bool true)) Tv) (.ret (.ref kl),ls',H')/\Tb H' tb rw dc es'/\Hk H' kl (.list ws)/\jE (Nw m H' es') H' ws (xs++ys)/\Keep (λi=>i<N/\i≠rw/\i≠dc) H H':=by
 induction hq with
 | nil hk=>
  intro H p es vs xs x6 S ha hkl hne hv h1 h2 h3 h4 h5 hm n1 n2 n3 rs;obtain⟨f,hr⟩:=S.hr;refine dX (O4 (d:=d) S hl ha hk) λq H' e S' K=>?_;have o:Js H.length r l rw dc kl:=(v9 (bw hkl) (aZ hkl hr (λe=>nomatch e)) (aZ hkl S.hl (λe=>nomatch e)) hne (aZ hkl S.ht.hd (λe=>nomatch e)))
  erw [bq]
  exact tA vs H' es _ (lZ (gE rfl az) (cK (i4 rfl hr rfl rfl rfl ao e) rfl (mu (cS rfl rfl) (fx (ah rfl))))) S'.ht (K.at_ _ _ o hkl) (rs.move K (wc S h1 h2 h3 h4) .refl (aw _)) (K.outer (ok:=all) (aj n1 (aj (d5 h1) hm)) n1 n2)
 | cons hk hs g hn hq ih=>
  rename_i s rest x ys
  intro H p es vs xs x6 S ha hkl hne hv h1 h2 h3 h4 h5 hm n1 n2 n3 rs;rw[aI]at hv;obtain⟨f,hr⟩:=S.hr;refine J8 (S6 (d:=d) g S hl ha hk hs hn) λv q aO pY e2 S2 a2 r2 sb K2=>?_;have o:Js H.length r l rw dc kl:=(v9 (bw hkl) (aZ hkl hr (λe=>nomatch e)) (aZ hkl S.hl (λe=>nomatch e)) hne (aZ hkl S.ht.hd (λe=>nomatch e)));have hk2:=K2.at_ _ _ o hkl;have K3:Keep (·≠kl) aO (aO.set kl (.list (vs++ [v]))):=Keep.set λo=>o rfl;obtain⟨f2,hr2⟩:=S2.hr;refine aL (S2.ht.hr) λrsl hw2 _=>?_;have S3:RI (aO.set kl (.list (vs++ [v]))) r l tb rw dc t q pY:=⟨⟨f2,K3.at_ _ _ (aZ hr2 hk2 λe=>nomatch e) hr2⟩,K3.at_ _ _ (aZ S2.hl hk2 λe=>nomatch e) S2.hl,S2.ht.keep K3 (aZ S2.ht.ht hk2 λe=>nomatch e) hne.symm (aZ S2.ht.hd hk2 λe=>nomatch e) λk n s h=>aZ h hk2 λe=>nomatch e⟩;have hK:iD m aO (·≠kl):=iD.ne hk2 h5 rfl;refine w1 (ih (x6:=some v) S3 a2 (cO (bw hk2)) hne (by erw [af];show _+1+_<=_;exact(bE (aJ bf ay) cX [(aJ ai cN,cX)] aR hv)) h1 h2 h3 h4 h5 (by erw [iM];exact aj hm K2.len) n1 n2 n3 (((rs.move K2 (wc S h1 h2 h3 h4) sb (aw _)).move K3 hK .refl (aw _)).add (r2.move K3 (iD.ne hk2 (al h5 hm) rfl) .refl hm))) λws H' es' ls' e T' hk' rs' K'=>?_;rw[aA]at rs';exact tA ws H' es' ls' (eQ (gE rfl az) (cK (i4 rfl hr rfl rfl rfl ao e2) rfl (ie (cS rfl (Bo x r2)) (uv (ft (ah rfl) hk2 (ah rfl) hk2 (aM (by exact(bE ai cX [(aJ ai cN,cX)] aR hv)))) ba))) e) T' hk' rs' ((K2.outer (ok:=all) (aj n1 (aj (d5 h1) hm)) n1 n2).trans ((K3.weak λi o=>aC (al o.1 n3)).trans K'))
def RK{ys:List D}(T:Tb H tb rw dc es)(hl:t.length<=1000000)(hq:Sq t ys)(hy:ys.length<=1000000):∃kl ws H' es',aP (d+24) H 107 [.str t, .ref tb] (.ref kl,H')/\Tb H' tb rw dc es'/\Hk H' kl (.list ws)/\jE (Nw H.length H' es') H' ws ys/\Keep (λi=>i<H.length/\i≠rw/\i≠dc) H H':=by
 refine fy (S7 (d:=d+21) (t:=t) T) λl aq e1 S1 hl1 K1=>?_;obtain⟨f1,hr1⟩:=S1.hr;have n1:H.length<aq.length:=bw hr1;have S2:RI (aq++ [.list []]) H.length l tb rw dc t 0 es:=by
  have K:Keep all aq (aq++ [.list []]):=Keep.app
  exact⟨⟨f1,K.at_ _ _ trivial hr1⟩,S1.hl.keep K,S1.ht.keep K trivial trivial trivial λzz zy zx zw=>trivial⟩
 have hm:aq.length<(aq++ [Cell.list []]).length:=by erw [af];exact cI _
 have low:=S2.low;refine w1 (FV (d:=d) (N:=H.length) (l0:=some (.str t)) (l1:=some (.ref tb)) (l2:=some (.int 53)) (l3:=some (.bool true)) (l7:=none) (l8:=none) (x6:=none) (vs:= []) hl hq S2 ⟨rfl,aX _⟩ aU (Ne.symm (aC S1.low.1)) (by show 0+_<=_;exact(cz (aJ (aG 0) ai) cX [(ai,cX)] aR hy)) (gJ n1 hm) (bw S2.hl) low.1 low.2 hm (aw _) (aw _) hl1 (d5 n1) jE.nil) λws H' es' ls' e T' hk' rs' K'=>?_;exact tA aq.length ws H' es' (bx (F:=OT) rfl rfl rfl (cK (gG (bV rfl (bV rfl (ak (ah rfl) (ak (ah rfl) ao)))) rfl e1) rfl (cK (fK ao (aM (aX _))) rfl (eP e)))) T' hk' (rs'.move (ok:=all) .refl iD.lt .refl (d5 (gJ n1 hm))) ((K1.weak λi o=>o.1).trans (Keep.app.trans K'))
end
end
mutual
noncomputable abbrev Cf(w:List Nat)(v:AV):AV:= .U [.str w,v]
abbrev qo:D->AV×(List AV×AV)
 | .bool b=>one (Cf [98,111,111,108,101,97,110] (.int (yK b)))
 | .int i=>one (Cf [119,104,111,108,101] (.int i))
 | .empty=>one (Cf [101,109,112,116,121] (.int 0))
 | .ratio p q=>one (Cf [114,97,116,105,111] (.U [.int p, .int q]))
 | .real m e=>one (Cf [114,101,97,108] (.U [.int m, .int e]))
 | .sym s=>one (Cf [115,121,109,98,111,108] (.str s))
 | .char c=>one (Cf [99,104,97,114] (.int c))
 | .text cs=>one (Cf [115,116,114,105,110,103] (.U (cs.map λc:Nat=> .int c)))
 | .vec a b=>one (Cf [118,101,99,116,111,114] (.U [(qo a).1,(qo b).1]))
 | .pair a b=>(Cf [99,104,97,105,110] (.U [.U ((qo a).1::(qo b).2.1),(qo b).2.2]),(qo a).1::(qo b).2.1,(qo b).2.2)
where one (v:AV):AV×(List AV×AV):=(v,[],v)
abbrev rk(x:D):AV:=(qo x).1
abbrev dp:D->Nat
 | .vec a b=>1+max (dp a) (dp b)
 | .pair a b=>1+max (dp a) (dp b)
 | _=>0
abbrev Pd(v:AV)(n:Nat):Prop:= ∃p,mV v=some p/\p.canLay0=true/\p.depth<=n
abbrev yS(vs:List AV)(n:Nat):Prop:= ∃ps,toPDs vs=some ps/\PyData.canLayAll0 ps=true/\PyData.depthAll ps<=n
end
section
mutual
variable{v:AV}{vs:List AV}{n m:Nat}{H:Hp}{s:List Nat}
def Pd.le(h:Pd v n)(e:n<=m):Pd v m:=by refine dq h λp a b c=>?_;exact eF p a b (aj c e)
def yS.le(h:yS vs n)(e:n<=m):yS vs m:=by refine dq h λp a b c=>?_;exact eF p a b (aj c e)
def yS.nil:yS [] n:=(eF ([]) rfl rfl (aX _))
def yS.cons(h:Pd v n)(g:yS vs n):yS (v::vs) n:=by
 refine dq h λp a b c=>?_;refine dq g λps a' b' c'=>?_;refine eF (p::ps) ?_ ?_ (wK.mpr ⟨c,c'⟩)
 ·show(match mV v,toPDs vs with | some x,some y=>some (x::y) | _,_=>none)=_
  erw [a,a'];rfl
 ·show(p.canLay0 && PyData.canLayAll0 ps)=true
  erw [b,b'];rfl
def Pd.U(h:yS vs n):Pd (.U vs) (n+1):=by
 refine dq h λps a b c=>?_;exact eF (.tuple ps) (by show(toPDs vs).map _=_;erw [a];rfl) b (dA c)
def Pd.int{i:Int}:Pd (.int i) n:=(eF _ rfl rfl (aX _))
def Pd.str(h:PyData.strOk ⟨s.toArray⟩=true):Pd (.str s) n:=(eF _ rfl h (aX _))
def yS.ints:∀{cs:List Nat},yS (cs.map λc:Nat=>AV.int c) n
 | []=> .nil
 | _::_=> .cons .int yS.ints
def Pd.sh{w:List Nat}(hw:PyData.strOk ⟨w.toArray⟩=true)(h:Pd v n):Pd (Cf w v) (n+1):= .U (.cons (.str hw) (.cons h .nil))
def yw{p:PyData}(h:p.canLay0=true)(hd:p.depth<=64):CU (some p) (some p)=some true:=by
 have s:SeqAt.shaped p=true:=ag.mpr ⟨h,decide_eq_true hd⟩;show(match SeqAt.shaped p && SeqAt.shaped p with | true=>some (PyData.eqv p p) | false=>none)=_
 erw [s,SeqAt.eqv_refl p h];rfl
def Fi{i j:Nat}(hi:Hk H i (.list vs))(hj:Hk H j (.list vs))(h:yS vs n)(hn:n+1<=64):iI H .eq (.ref i) (.ref j)=some true:=by
 refine dq h λps a b c=>?_;show(aD H i).bind (λx=>(aD H j).bind λy=>cond (aW x.length y.length) (CU ((toPDs x).map .list) ((toPDs y).map .list)) (some false))=_
 erw [fj hi,fj hj]
 show cond (aW vs.length vs.length) (CU ((toPDs vs).map .list) ((toPDs vs).map .list)) (some false)=_
 erw [fV,a,(show qY PyData.list (some ps)=some (.list ps)from rfl),yw (p:= .list ps) b (aj (dA c) hn)]
 rfl
end
end
mutual
def P9:(names.all λs=>PyData.strOk ⟨s.toArray⟩)=true:=by decide+kernel
def DX:∀(x:D),x.good->Pd (rk x) (3*dp x+3)/\yS (qo x).2.1 (3*dp x)/\Pd (qo x).2.2 (3*dp x+3)/\(x.end_=false->x≠ .empty->Pd (qo x).2.2 (3*dp x)):=by
 have at_:∀(x:D) (w:List Nat) (v:AV),qo x=qo.one (Cf w v)->PyData.strOk ⟨w.toArray⟩=true->Pd v 2->x.end_=true\/x= .empty->Pd (rk x) (3*dp x+3)/\yS (qo x).2.1 (3*dp x)/\Pd (qo x).2.2 (3*dp x+3)/\(x.end_=false->x≠ .empty->Pd (qo x).2.2 (3*dp x)):=by
  intro x w v e hw h he
  have p:Pd (Cf w v) (3*dp x+3):=(Pd.sh hw h).le (eE 3 (3*dp x))
  unfold rk
  erw [e]
  exact Ad p .nil p (λh1 h2=>absurd he (by intro he;cases he using cV with | inl he=>rw[he]at h1;exact nomatch h1 | inr he=>exact h2 he))
 intro x
 induction x with
 | bool b=>exact λg=>at_ _ _ _ rfl (by decide+kernel) .int (.inl rfl)
 | int i=>exact λg=>at_ _ _ _ rfl (by decide+kernel) .int (.inl rfl)
 | empty=>exact λg=>at_ _ _ _ rfl (by decide+kernel) .int (.inr rfl)
 | ratio p q=>exact λg=>at_ _ _ _ rfl (by decide+kernel) (.U (.cons .int (.cons .int .nil))) (.inl rfl)
 | real m e=>exact λg=>at_ _ _ _ rfl (by decide+kernel) (.U (.cons .int (.cons .int .nil))) (.inl rfl)
 | sym s=>exact λg=>at_ _ _ _ rfl (by decide+kernel) (.str (aS.mp P9 s g)) (.inl rfl)
 | char c=>exact λg=>at_ _ _ _ rfl (by decide+kernel) .int (.inl rfl)
 | text cs=>exact λg=>at_ _ _ _ rfl (by decide+kernel) (.U .ints) (.inl rfl)
 | vec a b ia ib=>
  intro g;have ha:=(ia g.1).1;have hb:=(ib g.2).1;have la:3*dp a+3<=3*dp (D.vec a b):=by show _<=3*(1+max (dp a) (dp b));have:=iL (dp a) (dp b);exact(bE (aJ (fZ 3 ai) (aG 3)) (fZ 3 (aJ (aG 1) ay)) [(ai,ay),(ai,ay),(ai,ay)] aR this this this)
  have lb:3*dp b+3<=3*dp (D.vec a b):=by show _<=3*(1+max (dp a) (dp b));have:=lT (dp a) (dp b);exact(bE (aJ (fZ 3 ai) (aG 3)) (fZ 3 (aJ (aG 1) ay)) [(ai,ay),(ai,ay),(ai,ay)] aR this this this)
  have p:Pd (rk (D.vec a b)) (3*dp (D.vec a b)+3):=(Pd.sh (by decide+kernel) (.U (.cons (ha.le la) (.cons (hb.le lb) .nil)))).le (ow _);exact Ad p .nil p (λh=>nomatch h)
 | pair a b ia ib=>
  intro g;have ha:=(ia g.1).1;have hb:=ib g.2;have la:3*dp a+3<=3*dp (D.pair a b):=by show _<=3*(1+max (dp a) (dp b));have:=iL (dp a) (dp b);exact(bE (aJ (fZ 3 ai) (aG 3)) (fZ 3 (aJ (aG 1) ay)) [(ai,ay),(ai,ay),(ai,ay)] aR this this this)
  have lb:3*dp b+3<=3*dp (D.pair a b):=by show _<=3*(1+max (dp a) (dp b));have:=lT (dp a) (dp b);exact(bE (aJ (fZ 3 ai) (aG 3)) (fZ 3 (aJ (aG 1) ay)) [(ai,ay),(ai,ay),(ai,ay)] aR this this this)
  have cs:yS (qo (D.pair a b)).2.1 (3*dp (D.pair a b)):= .cons (ha.le la) (hb.2.1.le (aj (bu _ 3) lb));have l:Pd (qo (D.pair a b)).2.2 (3*dp (D.pair a b)):=hb.2.2.1.le lb;exact Ad (Pd.sh (by decide+kernel) (.U (.cons (.U cs) (.cons (l.le (ow _)) .nil)))) cs (l.le (bu _ 3)) (λzz zy=>l)
noncomputable abbrev R3:S:= .while (.h (.v 0) (.cls 3)) [(.expr (.meth (.v 2) 0 [(.call 125 [(.aT (.v 0) 16),(.v 1)])])),(.aS (.v 0) (.aT (.v 0) 17))]
abbrev Sh(bT:Hp)(tb n:Nat)(es:List (List Nat×AV))(x:D):Prop:= ∀{e:Nat} {v:AV} {H:Hp},sz x+2<=e->gI (Nw n bT es) bT v x->Keep all bT H->∃H',aP e H 125 [v, .ref tb] (rk x,H')/\Keep all H H'
abbrev Ch(bT:Hp)(tb n:Nat)(es:List (List Nat×AV))(x:D):Prop:= ∀{e:Nat} {v:AV} {H:Hp} {kl:Nat} {us:List AV},sz x+2<=e->gI (Nw n bT es) bT v x->Keep all bT H->bT.length<=kl->Hk H kl (.list us)->us.length+sz x<=1000000->
 ∃v' H' H'',Rs e [some v,some (.ref tb),some (.ref kl),none,none] H R3 (.next,[some v',some (.ref tb),some (.ref kl),none,none],H')/\Hk H' kl (.list (us++(qo x).2.1))/\Keep (·≠kl) H H'/\aP e H' 125 [v', .ref tb] ((qo x).2.2,H'')/\Keep all H' H''
end
section
mutual
variable{ls:Ls}
variable{bT H:Hp}{tb rw dc n e k c:Nat}{es:List (List Nat×AV)}{x:D}{v:AV}{fs:List (Nat×AV)}{o:Fl×Ls×Hp}{l2:Option AV}
def R.t_isi{d:Nat}{H:Hp}{v:AV}{i:IK}{q:Bool}(h0:ls[0]? =some (some v))(h:kh P H i v=some q):Rt d ls H (.h (.v 0) i) (q,H):=gE rfl (iY (ah h0) h)
def zj(h:Hk H k (.n c fs))(g:gH e [some (.ref k),some (.ref tb),none,none,none] H (qV.body.drop 3) o):gH e [some (.ref k),some (.ref tb),none,none,none] H qV.body o:=
 ie (R.t_isi rfl (bY h)) (ie (R.t_isi rfl (bY h)) (ie (gE rfl (dw (ah rfl) az rfl)) g))
def lR{i:IK}{b:List S}{ss:List S}(h0:ls[0]? =some (some (.ref k)))(h:Hk H k (.n c fs))(hi:Cx i c=false)(g:gH e ls H ss o):gH e ls H (.ite (.h (.v 0) i) b []::ss) o:=ie (R.t_isi h0 ((bY h).trans (congrArg some hi))) g
def Ce{i:IK}{a:E}{ss:List S}{H':Hp}(h0:ls[0]? =some (some (.ref k)))(h:Hk H k (.n c fs))(hi:Cx i c=true)(g:Re e ls H a (v,H')):gH e ls H (.ite (.h (.v 0) i) [.ret a] []::ss) (.ret v,ls,H'):=mu (R.t_isi h0 ((bY h).trans (congrArg some hi))) (fx g)
def Fy(S:Sh bT tb n es x)(hq:(qo x).2=([],rk x))(hp:∀{v H},gI (Nw n bT es) bT v x->Keep all bT H->kh P H (.cls 3) v=some false):Ch bT tb n es x:=by
 intro e v H kl us he r K hkl hk hu;refine aL (S he r K) λH' e1 K1=>?_
 erw [hq]
 exact iR v H H' (eR (R.t_isi rfl (hp r K))) (by erw [bq];exact hk) .refl e1 K1
def lI(S:Sh bT tb n es x)(ha:x.atom=true)(hq:(qo x).2=([],rk x)):Ch bT tb n es x:=Fy S hq λr K=>(iG x ha (r.keep (K.weak λzz zy=>trivial))).1
def gi{l i:Nat}{vs:List AV}(h:aD H l=some vs):(It.cell l i).next H=some ((vs[i]?).map λv=>(v, .cell l (i+1))):=by
 show(aD H l).map _=_
 erw [h];rfl
def A4:∀(x:D),(qo x).2.1.length<=sz x
 | .pair a b=>by
  show(qo b).2.1.length+1<=3+sz a+sz b;have:=A4 b;exact(gj bf (aJ (aJ (aG 3) ay) bF) [(ai,bF)] aR this)
 | .vec a b=>aX _
 | .bool _=>aX _
 | .int _=>aX _
 | .empty=>aX _
 | .ratio _ _=>aX _
 | .real _ _=>aX _
 | .sym _=>aX _
 | .char _=>aX _
 | .text _=>aX _
variable(T:Tb bT tb rw dc es)
def uk{m:Nat}(he:m+2<=e):∃e',e=e'+2:=⟨e-2,by exact(bI (bE ai (aJ ay (aG 2)) [(ai,aJ ay (aG 2))] aR (tg _ _)) (bE (aJ ai (aG 2)) ay [(aJ ai (aG 2),ay)] aR (pJ (dU (bE (aG 2) ai [(aJ ay (aG 2),ai)] aR he)))))⟩
include T in
theorem vJ:∀(x:D),x.good->sz x<=900000->Sh bT tb n es x/\Ch bT tb n es x:=by
 intro x
 induction x with
 | bool b=>
  intro g hz;have S:Sh bT tb n es (.bool b):=by
   intro e v H he r K
   obtain⟨e,xq1⟩:=uk he;subst xq1
   cases (r:v=_)
   exact bH H (bx (F:=qV) rfl rfl rfl (mu (R.t_isi rfl rfl) (fx (gQ (gR (ak (eH (ak (ah rfl) ao) rfl) ao)) (aM (ab rfl)))))) .refl
  exact⟨S,lI S rfl rfl⟩
 | int i=>
  intro g hz;have S:Sh bT tb n es (.int i):=by
   intro e v H he r K
   obtain⟨e,xq2⟩:=uk he;subst xq2
   cases (r:v=_)
   exact bH H (bx (F:=qV) rfl rfl rfl (ie (R.t_isi rfl rfl) (mu (R.t_isi rfl rfl) (fx (gQ (ak az (ak (ah rfl) ao)) (aM (ab rfl))))))) .refl
  exact⟨S,lI S rfl rfl⟩
 | empty=>
  intro g hz;have S:Sh bT tb n es .empty:=by
   intro e v H he r K
   obtain⟨e,xq3⟩:=uk he;subst xq3
   cases (r:v=_)
   exact bH H (bx (F:=qV) rfl rfl rfl (ie (R.t_isi rfl rfl) (ie (R.t_isi rfl rfl) (mu (gE rfl (dw (ah rfl) az rfl)) (eP (kH (gQ (ak az (ak az ao)) (aM (ab rfl))))))))) .refl
  exact⟨S,lI S rfl rfl⟩
 | ratio p q=>
  intro g hz;have S:Sh bT tb n es (.ratio p q):=by
   intro e v H he r K
   obtain⟨e,xq4⟩:=uk he;subst xq4
   refine dq r λk xq5 zz h=>?_;subst xq5
   have h:=K.at_ _ _ trivial h
   exact bH H (bx (F:=qV) rfl rfl rfl (zj h (Ce rfl h rfl (gQ (gR (ak (gQ (ak (cB rfl h rfl rfl) (ak (cB rfl h rfl rfl) ao)) (aM (ab rfl))) ao)) (aM (ab rfl)))))) .refl
  exact⟨S,lI S rfl rfl⟩
 | real p q=>
  intro g hz;have S:Sh bT tb n es (.real p q):=by
   intro e v H he r K
   obtain⟨e,xq6⟩:=uk he;subst xq6
   refine dq r λk xq7 zz h=>?_;subst xq7
   have h:=K.at_ _ _ trivial h
   exact bH H (bx (F:=qV) rfl rfl rfl (zj h (lR rfl h rfl (Ce rfl h rfl (gQ (gR (ak (gQ (ak (cB rfl h rfl rfl) (ak (cB rfl h rfl rfl) ao)) (aM (ab rfl))) ao)) (aM (ab rfl))))))) .refl
  exact⟨S,lI S rfl rfl⟩
 | sym s=>
  intro g hz;have S:Sh bT tb n es (.sym s):=by
   intro e v H he r K
   obtain⟨e,xq8⟩:=uk he;subst xq8
   refine dX r λk i xq9 ok h=>?_;subst xq9
   have g:=ok.2 _ _ h
   have h:=K.at_ _ _ trivial h
   have T':=T.keep K trivial trivial trivial λzz zy zx zw=>trivial
   have f:aP (e+1) H 7 [.ref tb, .str s] (.ref k,H):=(c7 (d:=e) T').trans (by erw [g];rfl)
   exact bH H (bx (F:=qV) rfl rfl rfl (zj h (lR rfl h rfl (lR rfl h rfl (Ce rfl h rfl (gQ (ak (eW (gN (i4 rfl T'.ht rfl rfl rfl (ak (cB rfl h rfl rfl) ao) f) (ah rfl) (show some (aW k k)=some true from by erw [fV];rfl)) az) (ak (cB rfl h rfl rfl) ao)) (aM (ab rfl)))))))) .refl
  exact⟨S,lI S rfl rfl⟩
 | char c=>
  intro g hz;have S:Sh bT tb n es (.char c):=by
   intro e v H he r K
   obtain⟨e,xq10⟩:=uk he;subst xq10
   refine dq r λk xq11 zz h=>?_;subst xq11
   have h:=K.at_ _ _ trivial h
   exact bH H (bx (F:=qV) rfl rfl rfl (zj h (lR rfl h rfl (lR rfl h rfl (lR rfl h rfl (Ce rfl h rfl (gQ (gR (ak (cB rfl h rfl rfl) ao)) (aM (ab rfl))))))))) .refl
  exact⟨S,lI S rfl rfl⟩
 | text cs=>
  intro g hz;have S:Sh bT tb n es (.text cs):=by
   intro e v H he r K
   obtain⟨e,xq12⟩:=uk he;subst xq12
   refine ua r λk l xq13 zz h zy hl=>?_;subst xq13
   have h:=K.at_ _ _ trivial h
   have hl:=K.at_ _ _ trivial hl
   refine bH H (bx (F:=qV) rfl rfl rfl (zj h (lR rfl h rfl (lR rfl h rfl (lR rfl h rfl (lR rfl h rfl (Ce rfl h rfl (gQ (gR (ak (eH (ak (cB rfl h rfl rfl) ao) ?_) ao)) (aM (ab rfl)))))))))) .refl
   show(aD H l).bind _=_
   erw [fj hl]
   show eU (cF (cs.map λc:Nat=>AV.int c).length) _=_
   erw [(aM (by erw [aK];exact aj g.1 (ab rfl)))]
   rfl
  exact⟨S,lI S rfl rfl⟩
 | vec a b ia ib=>
  intro g hz;have ia:=ia g.1 (aj (by show sz a<=_+sz a+sz b;exact(bE ai (aJ (aJ (aG 4) ai) ay) [] aR)) hz);have ib:=ib g.2 (aj (by show sz b<=_+sz a+sz b;exact(bE ai (aJ (aJ (aG 4) ay) ai) [] aR)) hz);have S:Sh bT tb n es (.vec a b):=by
   intro e v H he r K
   obtain⟨e,xq14⟩:=uk he;subst xq14
   refine Gk r λk l x y xq15 zz h zy hl ra rb=>?_;subst xq15
   have h:=K.at_ _ _ trivial h
   have hl:=K.at_ _ _ trivial hl
   have hz:sz (D.vec a b)=4+sz a+sz b:=rfl
   have K0:Keep all H (H++ [.list []]):=Keep.app
   refine aL (ia.1 (e:=e+1) (by exact(gU (aJ ai (aG 2)) cN [((aJ (aJ (aG 4) ai) bF),cP),(aJ cP (aG 2),aJ ay (aG 2))] aR (lq hz) he)) ra (K.trans K0)) λaq e1 K1=>?_
   have g1:=K1.at_ _ _ trivial (aU (H:=H) (c:= .list []))
   have K2:Keep (· <H.length) H (aq.set H.length (.list [rk a])):=((K0.trans K1).weak λzz zy=>trivial).trans (Keep.set λo=>jQ _ o)
   have K2':Keep all bT (aq.set H.length (.list [rk a])):=⟨aj K.len K2.len,λk c zz e=>K2.at_ k c (bw (K.at_ k c trivial e)) (K.at_ k c trivial e)⟩
   refine aL (ib.1 (e:=e+1) (by exact(gU (aJ ai (aG 2)) cN [((aJ (aJ (aG 4) bF) ai),cP),(aJ cP (aG 2),aJ ay (aG 2))] aR (lq hz) he)) rb K2') λaO e2 K3=>?_
   have g2:=K3.at_ _ _ trivial (cO (c:= .list [rk a]) (bw g1))
   have K4:Keep (· <H.length) H (aO.set H.length (.list [rk a,rk b])):=K2.trans ((K3.weak λzz zy=>trivial).trans (Keep.set λo=>jQ _ o))
   have l1:=fj (bC (c':= .list []) hl)
   have l2:=fj (K2.at_ _ _ (bw hl) hl)
   have l3:=fj (K4.at_ _ _ (bw hl) hl)
   have cm:lM (e+1) [some (.ref k),some (.ref tb),none,none,none] (H++ [.list []]) (.cell l 0) (.one 3) none (.call 125 [.v 3, .v 1]) H.length (aO.set H.length (.list [rk a,rk b])):=
    iZ (v:=x) (it':= .cell l 1) (gi l1) rfl (bg (bV rfl (bV rfl ao)) e1) g1 (aM (aX _)) (iZ (v:=y) (it':= .cell l 2) (gi l2) rfl (bg (bV rfl (bV rfl ao)) e2) g2 (aM (ab rfl)) (gn (gi l3)))
   refine bH _ (bx (F:=qV) rfl rfl rfl (zj h (lR rfl h rfl (lR rfl h rfl (lR rfl h rfl (lR rfl h rfl (lR rfl h rfl (Ce rfl h rfl (gQ (gR (ak (eH (ak (kY rfl (cB rfl h rfl rfl) (by show(aD _ l).map _=_;erw [fj hl];rfl) cm) ao) ?_) ao)) (aM (ab rfl))))))))))) (K4.below λi h zz=>h)
   show(aD _ H.length).bind _=_
   erw [fj (cO (bw g2))]
   show eU (cF 2) _=_
   erw [aM (ab rfl)]
   rfl
  exact⟨S,Fy S rfl λr K=>by refine w2 r λk l x y xq17 zz h zy=>?_;subst xq17;exact bY (K.at_ _ _ trivial h)⟩
 | pair a b ia ib=>
  intro g hz;have ia:=ia g.1 (aj (by show sz a<=_+sz a+sz b;exact(bE ai (aJ (aJ (aG 3) ai) ay) [] aR)) hz);have ib:=ib g.2 (aj (by show sz b<=_+sz a+sz b;exact(bE ai (aJ (aJ (aG 3) ay) ai) [] aR)) hz);have hz:sz (D.pair a b)=3+sz a+sz b:=rfl;have C:∀{e:Nat} {v:AV} {H:Hp} {kl:Nat} {us:List AV},sz a+sz b+2<=e->gI (Nw n bT es) bT v (.pair a b)->Keep all bT H->bT.length<=kl->Hk H kl (.list us)->us.length+sz (D.pair a b)<=1000000->
    ∃v' H' H'',Rs e [some v,some (.ref tb),some (.ref kl),none,none] H R3 (.next,[some v',some (.ref tb),some (.ref kl),none,none],H')/\Hk H' kl (.list (us++(qo (D.pair a b)).2.1))/\Keep (·≠kl) H H'/\aP e H' 125 [v', .ref tb] ((qo (D.pair a b)).2.2,H'')/\Keep all H' H'':=by
   intro e v H kl us he r K hkl hk hu
   refine jT r λk x y xq18 zz h ra rb=>?_;subst xq18
   have h:=K.at_ _ _ trivial h
   refine aL (ia.1 (e:=e) (by exact(gj (aJ ai (aG 2)) ay [(aJ (aJ ai bF) (aG 2),ay)] aR he)) ra K) λaq e1 K1=>?_
   have g1:=K1.at_ _ _ trivial hk
   have nk:k≠kl:=aZ h hk λe=>nomatch e
   have K2:Keep (·≠kl) H (aq.set kl (.list (us++ [rk a]))):=(K1.weak λzz zy=>trivial).trans (Keep.set λo=>o rfl)
   have K2':Keep all bT (aq.set kl (.list (us++ [rk a]))):=⟨aj K.len K2.len,λk c zz e=>K2.at_ k c (aC (al (bw e) hkl)) (K.at_ k c trivial e)⟩
   refine jT (ib.2 (e:=e) (by exact(gj (aJ ai (aG 2)) ay [(aJ (aJ bF ai) (aG 2),ay)] aR he)) rb K2' hkl (cO (bw g1)) (by erw [af];show _+1+_<=_;exact(gU (aJ bf ay) cX [((aJ (aJ (aG 3) bF) ay),cP),(aJ ai cP,cX)] aR (lq hz) hu))) λv' H' H'' e2 h2 K3 e3 K4=>?_
   refine iR v' H' H'' (eQ (R.t_isi rfl (bY h)) (uv (ft (ah rfl) hk (bg (ak (cB rfl h rfl rfl) (bV rfl ao)) e1) g1 (aM (by exact(bE ai cX [(aJ ai ay,cX)] aR hu)))) (cK (cB rfl (K2.at_ _ _ nk h) rfl rfl) rfl ba)) e2) ?_ (K2.trans K3) e3 K4
   show(_:Option Cell)=_;erw [h2,aA]
   rfl
  refine⟨?_,λhe=>C (by exact(gU (aJ (aJ ai ay) (aG 2)) bF [((aJ (aJ (aG 3) ai) ay),cP),(aJ cP (aG 2),bF)] aR (lq hz) he))⟩;intro e v H he r K;obtain⟨e,xq19⟩:=uk he;subst xq19;have r':=r;refine jT r' λk x y xq20 zz h ra rb=>?_;subst xq20;have h:=K.at_ _ _ trivial h;refine jT (C (e:=e+1) (us:= []) (by exact(gU (aJ (aJ ai ay) (aG 2)) l9 [((aJ (aJ (aG 3) ai) ay),cP),(aJ cP (aG 2),aJ bF (aG 2))] aR (lq hz) he)) r (K.trans Keep.app) K.len aU (by show 0+_<=_;lia)) λv' H' H'' e2 h2 K3 e3 K4=>?_;have g2:=K4.at_ _ _ trivial h2;refine bH H'' (bx (F:=qV) rfl rfl rfl (zj h (lR rfl h rfl (lR rfl h rfl (lR rfl h rfl (lR rfl h rfl (lR rfl h rfl (lR rfl h rfl (ie (uy (R.t_isi rfl (bY h))) (cK (fK ao (aM (aX _))) rfl (aB e2 (fx (gQ (ak az (ak (gQ (ak (eH (ak (ah rfl) ao) ?_) (ak (bg (ak (ah rfl) (ak (ah rfl) ao)) e3) ao)) (aM (ab rfl))) ao)) (aM (ab rfl))))))))))))))) (((Keep.app.trans (K3.weak λi o=>aC o)).trans (K4.weak λzz zy=>trivial)).below (ok:=(· <H.length)) λi h zz=>h);show(aD H' H.length).bind _=_
  erw [fj h2]
  show eU (cF ((qo (D.pair a b)).2.1).length) _=_
  erw [(aM (aj (A4 _) (by lia)))]
  rfl
end
end
mutual
structure Deck(H:Hp)(dk sc τ:Nat):Prop where
 ex:∃(cells:List Int) (turn:Nat) (st:Int),Hk H dk (.list [.ref sc, .int turn, .int st])/\Hk H sc (.list (cells.map .int))/\turn<=τ/\0<=st/\st<4294967296/\cells.length<=1000
end
section
mutual
variable{a:Int}
variable{d:Nat}{H H':Hp}{dk sc τ k j n:Nat}{v:AV}{vs:List AV}
def sN(hk:Hk H k (.list vs))(hj:j<vs.length)(hl:vs.length<=1000000):mW H (.ref k) (.int j) v=some (H.set k (.list (vs.set j v))):=bo hk (by
 show eU (cf j vs.length && cF vs.length) _=_
 erw [cL.mpr hj,aM hl];rfl)
def zU(hn:0<n):nW .mod (.int a) (.int n) H=some (.int (gr a n),H):=by
 show((eU (!decide ((n:Int)=0)) (some (gr a n))).map λk=>(AV.int k,H))=_
 erw [(decide_eq_false (by exact(λzz=>(Dj [] [_] (.hn (eS (aG 0)) ai (.hz (.ic ai) (.ik 0) .ho)) aR hn (wU zz)))))];rfl
def BC(hn:0<n)(hf:n<10 ^ 40):nW .fdiv (.int a) (.int n) H=some (.int (lh a n),H):=by
 show((eU (!decide ((n:Int)=0) && fQ n) (some (lh a n))).map λk=>(AV.int k,H))=_
 erw [(decide_eq_false (by exact(λzz=>(Dj [] [_] (.hn (eS (aG 0)) ai (.hz (.ic ai) (.ik 0) .ho)) aR hn (wU zz))))),fU hf];rfl
def pV{i:Int}(h0:0<=i)(h:i<4294967296):fQ i=true:=by
 obtain⟨n,rfl⟩:∃n:Nat,i=n:=⟨i.toNat,by exact(jS (eB [_] [_] 0 (.iv 0) (.ic ai) (.hz (.iv 0) (.ic ai) .ho) aR (wR (bU (eB [_] [] 0 (.ik 0) (.iv 0) (.hz (.ik 0) (.iv 0) .ho) aR h0)))) (eB [_] [_] 0 (.ic ai) (.iv 0) (.hz (.ic ai) (.iv 0) .ho) aR (wU (bU (eB [_] [] 0 (.ik 0) (.iv 0) (.hz (.ik 0) (.iv 0) .ho) aR h0)))))⟩;exact fU (al (show n<4294967296 from by exact(bO.mp (eB [] [_] 0 (.ic bf) (.ic (aG 4294967296)) (.hz (.ip (.ic ai) (.ik 1)) (.ik 4294967296) .ho) aR h))) (ab rfl))
def Deck.ne(h:Deck H dk sc τ):dk≠sc:=by
 refine B2 (h.ex) λcells turn st h1 h2 zz=>?_;exact aZ h1 h2 λe=>by cases cells using au with
  | nil=>exact nomatch e
  | cons a b=>exact nomatch (dB (Cell.list.inj e)).1
def Deck.keep{ok:Nat->Prop}(h:Deck H dk sc τ)(K:Keep ok H H')(o1:ok dk)(o2:ok sc):Deck H' dk sc τ:=by
 refine B2 (h.ex) λcells turn st h1 h2 h3=>?_;exact⟨cells,turn,st,K.at_ _ _ o1 h1,K.at_ _ _ o2 h2,h3⟩
def Deck.le{σ:Nat}(h:Deck H dk sc τ)(e:τ<=σ):Deck H dk sc σ:=by
 refine gS (h.ex) λcells turn st h1 h2 h3 h4=>?_;exact⟨cells,turn,st,h1,h2,aj h3 e,h4⟩
def fN:(3:Nat)<=1000000:=ab rfl
def L8(D:Deck H dk sc τ)(hn:0<n)(hτ:τ<=100000):∃i H',i<n/\aP (d+1) H 122 [.ref dk, .int n] (.int (i:Nat),H')/\Deck H' dk sc (τ+1)/\Keep (·≠dk) H H':=by
 have ne:=D.ne;refine Gm (D.ex) λcells turn st h1 h2 h3 h4 h5 h6=>?_;have g1:(H.set dk (.list [.ref sc, .int (turn+1:Nat), .int st]))[dk]? =_:=cO (bw h1);have g2:(H.set dk (Cell.list [AV.ref sc,AV.int (turn+1:Nat),AV.int st]))[sc]? =_:=cW ne h2;have lc:(cells.map AV.int).length<=1000000:=by erw [aK];exact aj h6 (ab rfl)
 have ex:∃c:Int,Re d [some (.ref dk),some (.int n),some (.int turn),none,none,none] (H.set dk (.list [.ref sc, .int (turn+1:Nat), .int st])) (.ife (.j .lt (.v 2) (.bi .len [(.idx (.v 0) (.lit (.int 0)))])) (.idx (.idx (.v 0) (.lit (.int 0))) (.v 2)) (.o .fdiv (.idx (.v 0) (.lit (.int 2))) (.lit (.int 512)))) (.int c,H.set dk (.list [.ref sc, .int (turn+1:Nat), .int st])):=by
  have i0:=fi (i:=0) g1 fN rfl
  have i2:=fi (i:=2) g1 fN rfl
  have ln:=kg g2 lc
  rw[aK]at ln
  rcases yU turn cells.length with l | l
  ·exact⟨cells[turn],eW (gN (ah rfl) (eH (ak (dC (ah rfl) az i0) ao) ln) (dT (fW.mpr l))) (dC (dC (ah rfl) az i0) (ah rfl) (fi g2 lc (by erw [eu,bl l];rfl)))⟩
  ·exact⟨lh st 512,fz (gN (ah rfl) (eH (ak (dC (ah rfl) az i0) ao) ln) (dF (jf.mpr (bO.mpr l)))) (bS (dC (ah rfl) az i2) az (BC (n:=512) (by decide) (al (show 512<10 ^ 3 from ab rfl) (cp (cH _) (ab rfl)))))⟩
 obtain⟨c,ec⟩:=ex;have fs:0<=gr (st*69069+gr c 1000003+11*(turn:Int)+1) 4294967296/\gr (st*69069+gr c 1000003+11*(turn:Int)+1) 4294967296<4294967296:=⟨Int.fmod_nonneg_of_pos _ (by decide),Int.fmod_lt_of_pos _ (by decide)⟩;have fn:0<=gr c n/\gr c n<n:=⟨Int.fmod_nonneg_of_pos _ (by exact(eB [] [_] 0 (.ip (.ik 0) (.ik 1)) (.ic ai) (.hn (eS (aG 0)) ai .ho) aR hn)),Int.fmod_lt_of_pos _ (by exact(eB [] [_] 0 (.ip (.ik 0) (.ik 1)) (.ic ai) (.hn (eS (aG 0)) ai .ho) aR hn))⟩;have es:Re d [some (.ref dk),some (.int n),some (.int turn),some (.int c),none,none] (H.set dk (.list [.ref sc, .int (turn+1:Nat), .int st])) (.o .mod (.o .add (.o .add (.o .add (.o .mul (.idx (.v 0) (.lit (.int 2))) (.lit (.int 69069))) (.o .mod (.v 3) (.lit (.int 1000003)))) (.o .mul (.lit (.int 11)) (.v 2))) (.lit (.int 1))) (.lit (.int 4294967296))) (.int (gr (st*69069+gr c 1000003+11*(turn:Int)+1) 4294967296),H.set dk (.list [.ref sc, .int (turn+1:Nat), .int st])):=
  bS (bS (bS (bS (bS (dC (ah rfl) az (fi (i:=2) g1 fN rfl)) az (Hu (pV h4 h5) (pV (by decide) (by decide)))) (bS (ah rfl) az (zU (n:=1000003) (by decide))) rfl) (bS az (ah rfl) (Hu (pV (by decide) (by decide)) (pV (by exact(eB [] [_] 0 (.ik 0) (.ic ai) .ho aR)) (by exact(eB [] [_,_] 0 (.ip (.ic ai) (.ik 1)) (.ik 4294967296) (.hn ai ay (.hn ay (aG 100000) .ho)) aR h3 hτ))))) rfl) az rfl) az (zU (n:=4294967296) (by decide));refine d0 ((gr c n).toNat) _ (by exact(bO.mp (eB [_] [_,_] 0 (.ic bf) (.ic ay) (.hz (.ic ai) (.iv 0) (.hz (.ip (.iv 0) (.ik 1)) (.ic ay) .ho)) aR (wU (bU (eB [_] [] 0 (.ik 0) (.iv 0) (.hz (.ik 0) (.iv 0) .ho) aR fn.1))) fn.2))) (bx (F:=OJ) rfl rfl rfl (cK (dC (ah rfl) az (fi (i:=1) h1 fN rfl)) rfl (lP (bS (ah rfl) az rfl) (FX (ah rfl) az (sN (j:=1) h1 (ab rfl) fN)) (cK ec rfl (aB (iT es (FX (ah rfl) az (sN (j:=2) g1 (ab rfl) fN))) (eP (kH ((bS (ah rfl) (ah rfl) (zU hn)).trans (by erw [bU fn.1];rfl))))))))) (⟨cells,turn+1,_,cO (bw g1),cW ne g2,dA h3,fs.1,fs.2,h6⟩) ((Keep.set λo=>o rfl).trans (Keep.set λo=>o rfl))
def O8(D:Deck H dk sc τ)(hτ:τ<=100000)(hv:0<vs.length)(hl:vs.length<=1000000):∃(i:Nat) (v:AV) (H':Hp),vs[i]? =some v/\aP (d+2) H 123 [.ref dk, .a vs] (v,H')/\Deck H' dk sc (τ+1)/\Keep (·≠dk) H H':=by
 refine fy (L8 (d:=d) D hv hτ) λi H' hi e D' K=>?_;refine pR i (vs[i]) H' (bl hi) (bx (F:=LR) rfl rfl rfl (fx (dC (ah rfl) (bg (bV rfl (ak (eH (bV rfl ao) ?_) ao)) e) ?_))) D' K
 ·show eU (cF vs.length) _=_
  erw [aM hl];rfl
 ·show(wW i vs.length).bind (λj=>vs[j]?)=_;unfold wW
  erw [aM hl]
  show(match cf i vs.length with | true=>some i | false=>none).bind _=_
  erw [cL.mpr hi]
  exact bl hi
def yI(D:Deck H dk sc τ)(hτ:τ<=100000)(hk:Hk H k (.list vs))(hkd:k≠dk)(hv:0<vs.length)(hl:vs.length<=1000000):∃(i:Nat) (v:AV) (H':Hp),vs[i]? =some v/\aP (d+2) H 123 [.ref dk, .ref k] (v,H')/\Deck H' dk sc (τ+1)/\Keep (·≠dk) H H':=by
 refine fy (L8 (d:=d) D hv hτ) λi H' hi e D' K=>?_;exact pR i (vs[i]) H' (bl hi) (bx (F:=LR) rfl rfl rfl (fx (dC (ah rfl) (bg (bV rfl (ak (eH (bV rfl ao) (kg hk hl)) ao)) e) (fi (K.at_ _ _ hkd hk) hl (bl hi))))) D' K
end
end
mutual
structure LW(H:Hp)(dk sc tb rw dc τ:Nat)(es:List (List Nat×AV)):Prop where
 hD:Deck H dk sc τ
 hT:Tb H tb rw dc es
 nr:dk≠rw
 ns:sc≠rw
abbrev Hj(dk rw dc k:Nat):Prop:=k≠dk/\k≠rw/\k≠dc
structure Made(H H':Hp)(dk sc tb rw dc τ:Nat)(es es':List (List Nat×AV))(ki:Nat)(x:D):Prop where
 W:LW H' dk sc tb rw dc τ es'
 sb:Sub es es'
 it:∃v,Hk H' ki (.list [v, .str (tx true x), .str (tx false x)])/\H.length<=ki/\gI (Nw H.length H' es') H' v x
 g:x.good
 K:Keep (Hj dk rw dc) H H'
end
section
mutual
variable{j:Int}
variable{d n:Nat}{H aq H':Hp}{dk sc tb rw dc τ k i:Nat}{es es':List (List Nat×AV)}{v:AV}{x:D}{ls:Ls}
def Deck.cells(h:Deck H dk sc τ):(∃a b c,Hk H dk (.list [a,b,c]))/\∃vs,Hk H sc (.list vs):=by
 refine B2 (h.ex) λcells turn st h1 h2 zz=>?_;exact⟨⟨_,_,_,h1⟩,_,h2⟩
def LW.low(W:LW H dk sc tb rw dc τ es):dk<H.length/\sc<H.length/\tb<H.length/\rw<H.length/\dc<H.length:=by
 obtain⟨xq1,vs,h2⟩:=W.hD.cells;refine t9 xq1 λa b c h1=>?_;refine aL (W.hT.hr) λrs h3 zz=>?_;exact v9 (bw h1) (bw h2) (bw W.hT.ht) (bw h3) (bw W.hT.hd)
def LW.draw{τ':Nat}(W:LW H dk sc tb rw dc τ es)(K:Keep (·≠dk) H H')(D':Deck H' dk sc τ'):LW H' dk sc tb rw dc τ' es:=by
 obtain⟨xq2,_⟩:=W.hD.cells;refine t9 xq2 λa b c h=>?_;exact⟨D',W.hT.keep K (aZ W.hT.ht h λe=>nomatch e) W.nr.symm (aZ W.hT.hd h λe=>nomatch e) (λk n s g=>aZ g h λe=>nomatch e),W.nr,W.ns⟩
def LW.keep{ok:Nat->Prop}(W:LW H dk sc tb rw dc τ es)(K:Keep ok H H')(h:∀k,k<H.length->ok k):LW H' dk sc tb rw dc τ es:=by
 have K':Keep all H H':=K.below λk e zz=>h k e;exact⟨W.hD.keep K' trivial trivial,W.hT.keep K' trivial trivial trivial (λzz zy zx zw=>trivial),W.nr,W.ns⟩
def LW.more(W:LW H dk sc tb rw dc τ es)(K:Keep all H H'):LW H' dk sc tb rw dc τ es:=W.keep K λzz zy=>trivial
def LW.sym(W:LW H dk sc tb rw dc τ es)(T':Tb H' tb rw dc es')(K:Keep (λi=>i≠rw/\i≠dc) H H'):LW H' dk sc tb rw dc τ es':=by
 obtain⟨xq3,vs,h2⟩:=W.hD.cells;refine t9 xq3 λa b c h1=>?_;exact⟨W.hD.keep K ⟨W.nr,aZ h1 W.hT.hd λe=>nomatch e⟩ ⟨W.ns,aZ h2 W.hT.hd λe=>nomatch e⟩,T',W.nr,W.ns⟩
def LW.le{σ:Nat}(W:LW H dk sc tb rw dc τ es)(e:τ<=σ):LW H dk sc tb rw dc σ es:=⟨W.hD.le e,W.hT,W.nr,W.ns⟩
def LW.d122(W:LW H dk sc tb rw dc τ es)(hn:0<n)(hτ:τ<=100000):∃i H',i<n/\aP (d+1) H 122 [.ref dk, .int n] (.int (i:Nat),H')/\LW H' dk sc tb rw dc (τ+1) es/\Keep (·≠dk) H H':=by
 refine fy (L8 (d:=d) W.hD hn hτ) λi H' hi e D' K=>?_;exact d0 i H' hi e (W.draw K D') K
def LW.d123{vs:List AV}(W:LW H dk sc tb rw dc τ es)(hτ:τ<=100000)(hv:0<vs.length)(hl:vs.length<=1000000):∃(i:Nat) (v:AV) (H':Hp),vs[i]? =some v/\aP (d+2) H 123 [.ref dk, .a vs] (v,H')/\LW H' dk sc tb rw dc (τ+1) es/\Keep (·≠dk) H H':=by
 refine gS (O8 (d:=d) W.hD hτ hv hl) λi v H' hi e D' K=>?_;exact pR i v H' hi e (W.draw K D') K
def IR{b ss:List S}{o:Fl×Ls×Hp}(h2:ls[2]? =some (some (.int (i:Nat))))(h:((i:Nat):Int)≠j)(g:gH d ls H ss o):gH d ls H (.ite (.j .eq (.v 2) (.lit (.int j))) b []::ss) o:=ie (gN (ah h2) az (km h)) g
def Mn{b ss:List S}{ls':Ls}(h2:ls[2]? =some (some (.int (i:Nat))))(h:((i:Nat):Int)=j)(g:gH d ls H b (.ret v,ls',H')):gH d ls H (.ite (.j .eq (.v 2) (.lit (.int j))) b []::ss) (.ret v,ls',H'):=mu (gN (ah h2) az (dT h)) g
def hY{a b c:E}{aO dK:Hp}{u v w:AV}(ha:Re d ls H a (u,aq))(hb:Re d ls aq b (v,aO))(hc:Re d ls aO c (w,dK)):Re d ls H (.list [a,b,c]) (.ref dK.length,dK++ [.list [u,v,w]]):=fK (ak ha (ak hb (ak hc ao))) (aM fN)
def xK(W:LW aq dk sc tb rw dc τ es')(S:Sub es es')(K:Keep (Hj dk rw dc) H aq)(g:x.good)(r:gI (Nw H.length aq es') aq v x):Made H (aq++ [.list [v, .str (tx true x), .str (tx false x)]]) dk sc tb rw dc τ es es' aq.length x:=
 ⟨W.more Keep.app,S,(eF v aU K.len (r.move (ok:=all) Keep.app iD.lt .refl (aw _))),g,K.trans Keep.app⟩
def uq(K:Keep (·≠dk) H H'):Keep (Hj dk rw dc) H H':=K.weak λzz o=>o.1
def BA{i:Int}{m:Nat}(h:i.natAbs<=m)(hm:m<=1000:=by decide):fQ i=true:=by
 unfold fQ;exact cL.mpr (fC (aj h hm) (al (show 1000<2 ^ 10 from ab rfl) (cp (cH _) (ab rfl))))
def vx{i:Int}(h:i.natAbs<=1000):BR .str [.int i] H=some (.str (dG i),H):=by
 show eU (fQ i) _=_
 erw [BA h]
 rfl
noncomputable abbrev Uu(dk tb k:Nat):Ls:= [some (.ref dk),some (.ref tb),some (.int (k:Nat)),none,none,none,none,none,none,none,none,none,none,none,none,none]
abbrev oX(d:Nat)(H:Hp)(dk sc tb rw dc τ:Nat)(es:List (List Nat×AV))(b:List S)(k:Nat):Prop:= ∃ki x H' es' ls',gH (d+3) (Uu dk tb k) H b (.ret (.ref ki),ls',H')/\Made H H' dk sc tb rw dc (τ+6) es es' ki x/\x.atom=true
abbrev KR(k:Nat):List S:=match Ff.body[k+1]? with
 | some (.ite _ b _)=>b
 | _=> []
def NP(W:LW H dk sc tb rw dc τ es)(hτ:τ<=90000):oX d H dk sc tb rw dc τ es (KR 0) 0:=by
 refine fy (W.d122 (d:=d+2) (n:=2) (by decide) (by exact(cz ai (aG 100000) [(ai,aG 90000)] aR hτ))) λi aq hi e W1 K=>?_;have q:∃b:Bool,iI aq .eq (.int i) (.int 1)=some b:=⟨_,rfl⟩;obtain⟨b,q⟩:=q;have t:∀{H':Hp},Re (d+3) [some (.ref dk),some (.ref tb),some (.int ((0:Nat):Int)),some (.bool b),none,none,none,none,none,none,none,none,none,none,none,none] H' (.ife (.v 3) (.lit (.str [35,116])) (.lit (.str [35,102]))) (.str [35,if b then 116 else 102],H'):=by
  intro H'
  cases b using aE with
  | true=>exact eW (gE rfl (ah rfl)) az
  | false=>exact fz (gE rfl (ah rfl)) az
 exact yf _ (.bool b) _ es _ (cK (dw (bg (bV rfl (gR ao)) e) az q) rfl (fx (hY (ah rfl) t t))) (xK (x:= .bool b) (W1.le (σ:=τ+6) (by exact(cz bf (aJ ai (aG 6)) [] aR))) .refl (uq K) trivial rfl) rfl
def NO(W:LW H dk sc tb rw dc τ es)(hτ:τ<=90000):oX d H dk sc tb rw dc τ es (KR 1) 1:=by
 refine fy (W.d122 (d:=d+2) (n:=2000) (by decide) (by exact(cz ai (aG 100000) [(ai,aG 90000)] aR hτ))) λi aq hi e W1 K=>?_;have h:((i:Int)-1000).natAbs<=1000:=by exact(pK (eB [] [_] 0 (.ik 0) (.ip (.is (.ic ai) (.ik 1000)) (.ic (aG 1000))) .ho aR) (eB [] [_] 0 (.is (.ic ai) (.ik 1000)) (.ic (aG 1000)) (.hn bf (aG 2000) .ho) aR hi))
 exact yf _ (.int ((i:Int)-1000)) _ es _ (cK (bS (bg (bV rfl (gR ao)) e) az rfl) rfl (fx (hY (ah rfl) (eH (bV rfl ao) (vx h)) (eH (bV rfl ao) (vx h))))) (xK (x:= .int ((i:Int)-1000)) (W1.le (σ:=τ+6) (by exact(cz bf (aJ ai (aG 6)) [] aR))) .refl (uq K) (show -1000<=(i:Int)-1000/\(i:Int)-1000<1000 from by exact⟨(eB [] [_] 0 (.ik (-1000)) (.is (.ic ai) (.ik 1000)) .ho aR),(eB [] [_] 0 (.ip (.is (.ic ai) (.ik 1000)) (.ik 1)) (.ik 1000) (.hn bf (aG 2000) .ho) aR hi)⟩) rfl) rfl
def NH(W:LW H dk sc tb rw dc τ es):oX d H dk sc tb rw dc τ es (Ff.body.drop 8) 7:=
 (yf _ .empty _ es _ (fx (hY az az az)) (xK (x:= .empty) (W.le (σ:=τ+6) (by exact(cz ai (aJ ai (aG 6)) [] aR))) .refl .refl trivial rfl) rfl)
def NN(W:LW H dk sc tb rw dc τ es)(hτ:τ<=90000):oX d H dk sc tb rw dc τ es (KR 2) 2:=by
 refine fy (W.d122 (d:=d+2) (n:=8) (by decide) (by exact(cz ai (aG 100000) [(ai,aG 90000)] aR hτ))) λi aq hi e1 W1 K1=>?_;refine fy (W1.d122 (d:=d+2) (n:=20) (by decide) (by exact(cz bf (aG 100000) [(ai,aG 90000)] aR hτ))) λj aO hj e2 W2 K2=>?_;have g:2<=(2+(i:Int))/\(2+(i:Int))<10/\∃k:Int,-10<=k/\k<10/\(2+(i:Int))*((j:Int)-10)+1=(2+(i:Int))*k+1:=⟨by exact(eB [] [_] 0 (.ik 2) (.ip (.ik 2) (.ic ai)) .ho aR),by exact(eB [] [_] 0 (.ip (.ip (.ik 2) (.ic ai)) (.ik 1)) (.ik 10) (.hn bf (aG 8) .ho) aR hi),(j:Int)-10,by exact(eB [] [_] 0 (.ik (-10)) (.is (.ic ai) (.ik 10)) .ho aR),by exact(eB [] [_] 0 (.ip (.is (.ic ai) (.ik 10)) (.ik 1)) (.ik 10) (.hn bf (aG 20) .ho) aR hj),rfl⟩;refine Go (pC g.1 g.2.1 g.2.2) λm hm zz h1 h2 zy=>?_;have h3:(2+(i:Int)).natAbs<=1000:=by exact(pK (eB [] [_] 0 (.ik 0) (.ip (.ip (.ik 2) (.ic ai)) (.ic (aG 1000))) .ho aR) (eB [] [_] 0 (.ip (.ik 2) (.ic ai)) (.ic (aG 1000)) (.hn bf (aG 8) .ho) aR hi))
 have l1:=iX h2;have l2:=iX h3;have f1:fQ (2+(i:Int))=true:=pV (by exact(eB [] [_] 0 (.ik 0) (.ip (.ik 2) (.ic ai)) .ho aR)) (by exact(eB [] [_] 0 (.ip (.ip (.ik 2) (.ic ai)) (.ik 1)) (.ik 4294967296) (.hn bf (aG 8) .ho) aR hi));have f2:fQ ((j:Int)-10)=true:=BA (m:=10) (by exact(pK (eB [] [_] 0 (.ik 0) (.ip (.is (.ic ai) (.ik 10)) (.ic (aG 10))) .ho aR) (eB [] [_] 0 (.is (.ic ai) (.ik 10)) (.ic (aG 10)) (.hn bf (aG 20) .ho) aR hj)));have t:∀{H':Hp} {a b c d' e' f g' h' i':Option AV},Re (d+3) [a,b,c,d',e',some (.int (2+(i:Int))),some (.int ((2+(i:Int))*((j:Int)-10)+1)),none,none,none,none,none,none,none,none,none] H' (.o .add (.o .add (.bi .str [(.v 6)]) (.lit (.str [47]))) (.bi .str [(.v 5)])) (.str (dG ((2+(i:Int))*((j:Int)-10)+1)++ [47]++dG (2+(i:Int))),H'):=fun{H' a b c d' e' f g' h' i'}=>bS (bS (eH (bV rfl ao) (vx h2)) az (d8 (by show _+1<=_;exact(cz bf cX [(ai,aG 5)] aR l1)))) (eH (bV rfl ao) (vx h3)) (d8 (by erw [af];show _+1+_<=_;exact(bE (aJ bf ay) cX [(ay,aG 5),(ai,aG 5)] aR l2 l1)));refine yf _ (.ratio ((2+(i:Int))*((j:Int)-10)+1) (2+(i:Int))) _ es _ (cK (bS az (bg (bV rfl (gR ao)) e1) rfl) rfl (cK (bS (bS (ah rfl) (bS (bg (bV rfl (ak az ao)) e2) az rfl) (Hu f1 f2)) az rfl) rfl (fx (hY (gG (ak (ah rfl) (ak (ah rfl) ao)) rfl Te) (t (f:=none) (g':=none) (h':=none) (i':=none)) (t (f:=none) (g':=none) (h':=none) (i':=none)))))) (xK (x:= .ratio ((2+(i:Int))*((j:Int)-10)+1) (2+(i:Int))) ((W2.more Keep.app).le (σ:=τ+6) (by exact(cz (eS bf) (aJ ai (aG 6)) [] aR))) .refl (((uq K1).trans (uq K2)).trans Keep.app) g (eF _ rfl (jU aU rfl (λzz zy h=>nomatch h)) aU)) rfl
end
end
section
mutual
variable{d n:Nat}{H aq H':Hp}{dk sc tb rw dc τ k i:Nat}{es es':List (List Nat×AV)}{v:AV}{x:D}{ls:Ls}
def NM(W:LW H dk sc tb rw dc τ es)(hτ:τ<=90000):oX d H dk sc tb rw dc τ es (KR 3) 3:=by
 refine gS (W.d123 (d:=d+1) (vs:=mY.map λr=> .U [.int r.1, .int r.2, .str (fP r.1 r.2)]) (by exact(cz ai (aG 100000) [(ai,aG 90000)] aR hτ)) (by decide) (by decide)) λi v aq hi e W1 K=>?_;refine aL (cM.mp (bM hi)) λxq1 hm xq2=>?_;obtain⟨m,ex⟩:=xq1;subst xq2;have g:(D.real m ex).good:=hm;exact yf _ (.real m ex) _ es _ (lP (bg (bV rfl (gR ao)) e) (mm (di (eh rfl) (di (eh rfl) (di (eh rfl) jB)))) (fx (hY (gG (bV rfl (ak (ah rfl) ao)) rfl Tg) (ah rfl) (ah rfl)))) (xK (x:= .real m ex) ((W1.more Keep.app).le (σ:=τ+6) (by exact(cz bf (aJ ai (aG 6)) [] aR))) .refl ((uq K).trans Keep.app) g (eF _ rfl (jU aU rfl (λzz zy h=>nomatch h)) aU)) rfl
def NL(W:LW H dk sc tb rw dc τ es)(hτ:τ<=90000):oX d H dk sc tb rw dc τ es (KR 4) 4:=by
 refine gS (W.d123 (d:=d+1) (vs:=names.map .str) (by exact(cz ai (aG 100000) [(ai,aG 90000)] aR hτ)) (by decide) (by decide)) λi v aq hi e W1 K=>?_;refine aL (cM.mp (bM hi)) λs hs xq3=>?_;subst xq3;refine jT (c4 (d:=d+1) W1.hT hs) λk' es' aO e2 T2 sb g K2=>?_;refine gy (T2.hs s _ g) λj m ej hj=>?_;cases ej
 exact yf _ (.sym s) _ es' _ (cK (bg (bV rfl (gR ao)) e) rfl (fx (hY (i4 rfl W1.hT.ht rfl rfl rfl (ak (ah rfl) ao) e2) (ah rfl) (ah rfl)))) (xK (x:= .sym s) ((W1.sym T2 K2).le (σ:=τ+6) (by exact(cz bf (aJ ai (aG 6)) [] aR))) sb ((uq K).trans (K2.weak λzz o=>o.2)) hs (i5 k' m rfl (⟨λc h=>by cases hj.symm.trans h;exact .inr rfl,λi s' h=>by cases hj.symm.trans h;exact g⟩) hj)) rfl
def Ry{c:Nat}(hc:c<1114112):aP (d+1) H 126 [.int (c:Int)] (.str (gZ c),H):=by
 have l:(([(32,[115,112,97,99,101]),(10,[110,101,119,108,105,110,101])]:List (Int×List Nat)).lookup (c:Int)).getD [c]=(if c=32 then [115,112,97,99,101]else if c=10 then [110,101,119,108,105,110,101]else [c]):=by
  rcases Decidable.em (c=32)with h | h
  ·subst h;rfl
  ·rcases Decidable.em (c=10)with h2 | h2
   ·subst h2;rfl
   ·erw [if_neg h,if_neg h2]
    have b1:((c:Int)==32)=false:=beq_eq_false_iff_ne.mpr λe=>h (o5 e);have b2:((c:Int)==10)=false:=beq_eq_false_iff_ne.mpr λe=>h2 (o5 e)
    erw [List.lookup_cons,b1,List.lookup_cons,b2];rfl
 have e:=LY (d:=d) (ls:= [some (.int (c:Int)),none,none]) (a:= .v 0) (b:= .bi .chr [.v 0]) (t:= [(32,[115,112,97,99,101]),(10,[110,101,119,108,105,110,101])]) (ah (H:=H) rfl) (eH (bV rfl ao) (oW hc));rw[l]at e;refine bx (F:=OH) rfl rfl rfl (fx (bS az e (d8 ?_)));rcases Decidable.em (c=32)with h | h
 ·erw [if_pos h];exact ab rfl
 ·rcases Decidable.em (c=10)with h2 | h2
  ·erw [if_neg h,if_pos h2];exact ab rfl
  ·erw [if_neg h,if_neg h2];exact ab rfl
def NJ(W:LW H dk sc tb rw dc τ es)(hτ:τ<=90000):oX d H dk sc tb rw dc τ es (KR 5) 5:=by
 have l1:BR .list [.rng 33 95 1] H=some (.ref H.length,H++ [.list ((cR 62).map λi:Nat=> .int (33+(i:Int)*1))]):=by
  have e1:g9 33 95 1=62:=by decide
  show eU (cF (g9 33 95 1) && cw 33 95 1) (some (lK H (.list ((cR (g9 33 95 1)).map λi:Nat=> .int (33+(i:Int)*1)))))=_
  erw [e1,aM (ab rfl),(show cw 33 95 1=true from by decide)]
  rfl
 have hA:=aU (H:=H) (c:= .list ((cR 62).map λi:Nat=> .int (33+(i:Int)*1)));have l2:nW .add (.ref H.length) (.a (mi.map λc:Nat=> .int c)) (H++ [.list ((cR 62).map λi:Nat=> .int (33+(i:Int)*1))])=some (.ref (H++ [Cell.list ((cR 62).map λi:Nat=>AV.int (33+(i:Int)*1))]).length,H++ [.list ((cR 62).map λi:Nat=> .int (33+(i:Int)*1))]++ [.list (((cR 62).map λi:Nat=>AV.int (33+(i:Int)*1))++mi.map λc:Nat=> .int c)]):=by
  show eU true ((aD _ H.length).bind λx=>(D4 _ (AV.a _)).bind λy=>eU (cF (x.length+y.length)) (some (lK _ (.list (x++y)))))=_
  erw [fj hA]
  show eU (cF (((cR 62).map λi:Nat=>AV.int (33+(i:Int)*1)).length+(mi.map λc:Nat=>AV.int c).length)) _=_
  erw [(aM (by erw [aK,aK,oy];exact ab rfl))]
  rfl
 have K0:Keep all H (H++ [Cell.list ((cR 62).map λi:Nat=>AV.int (33+(i:Int)*1))]++ [Cell.list (((cR 62).map λi:Nat=>AV.int (33+(i:Int)*1))++mi.map λc:Nat=> .int c)]):=Keep.app.trans Keep.app;have W0:=W.more K0;have gk:=aU (H:=H++ [Cell.list ((cR 62).map λi:Nat=>AV.int (33+(i:Int)*1))]) (c:= .list (((cR 62).map λi:Nat=>AV.int (33+(i:Int)*1))++mi.map λc:Nat=> .int c));have nk:(H++ [Cell.list ((cR 62).map λi:Nat=>AV.int (33+(i:Int)*1))]).length≠dk:=by
  have:=W.low.1
  erw [af]
  show H.length+1≠dk
  exact(λzz=>(CL [(bf,ay),(cN,ai)] aR this (pJ zz)))
 refine gS (yI (d:=d+1) W0.hD (by exact(cz ai (aG 100000) [(ai,aG 90000)] aR hτ)) gk nk (by erw [af,aK,oy];exact eE ..) (by erw [af,aK,aK,oy];exact ab rfl)) λi v aq hi e D1 K=>?_;have W1:=W0.draw K D1;have hv:∃c:Nat,v= .int c/\((33<=c/\c<95)\/c∈mi):=by
  rcases dy.mp (bM hi)with m | m
  ·refine aL (cM.mp m) λj hj xq4=>?_;subst xq4;have:=List.mem_range.mp hj;exact bH (33+j) (by erw [Int.mul_one];rfl) (.inl ⟨by exact(cz (aG 33) (aJ (aG 33) ai) [] aR),by exact(cz (eS (aJ (aG 33) ai)) (aG 95) [(bf,aG 62)] aR this)⟩)
  ·refine aL (cM.mp m) λc hc xq5=>?_;subst xq5;exact bH c rfl (.inr hc)
 refine aL hv λc xq6 hc=>?_;subst xq6;have lc:c<1114112:=by
  cases hc using cV with
  | inl h=>exact(cz bf (aG 1114112) [(bf,aG 95)] aR h.2)
  | inr h=>exact qe c h
 have g:(D.char c).good:=hc;exact yf _ (.char c) _ es _ (cK (bg (bV rfl (ak (bS (eH (ak (eH (gR (ak az ao)) rfl) ao) l1) az l2) ao)) e) rfl (fx (hY (gG (bV rfl ao) rfl Tn) (bg (bV rfl ao) (Ry lc)) (eH (bV rfl ao) (oW lc))))) (xK (x:= .char c) ((W1.more Keep.app).le (σ:=τ+6) (by exact(cz bf (aJ ai (aG 6)) [] aR))) .refl (((K0.weak λzz zy=>trivial).trans (uq K)).trans Keep.app) g (eF _ rfl (jU aU rfl (λzz zy h=>nomatch h)) aU)) rfl
end
end
mutual
def xt:∀(s:List Nat),du 34 [92,34] (du 92 [92,92] s)=cA s
 | []=>rfl
 | c::s=>by
  have ih:=xt s;rcases Decidable.em (c=92)with h | h
  ·subst h;show 92::92::du 34 [92,34] (du 92 [92,92] s)=if 92=34\/92=92 then 92::92::cA s else _
   erw [if_pos (.inr rfl),ih];rfl
  ·have b1:aW c 92=false:=gM.mpr λe=>h (aV e);have e1:du 92 [92,92] (c::s)=c::du 92 [92,92] s:=by
    show(match aW c 92 with | true=>_ | false=>c::du 92 [92,92] s)=_
    erw [b1];rfl
   erw [e1]
   rcases Decidable.em (c=34)with h2 | h2
   ·subst h2;show 92::34::du 34 [92,34] (du 92 [92,92] s)=if 34=34\/34=92 then 92::34::cA s else _
    erw [if_pos (.inl rfl),ih];rfl
   ·have b2:aW c 34=false:=gM.mpr λe=>h2 (aV e);show(match aW c 34 with | true=>_ | false=>c::du 34 [92,34] (du 92 [92,92] s))=if c=34\/c=92 then _ else c::cA s
    erw [b2,(if_neg (λe=>e.elim h2 h)),ih];rfl
def xr:∀(s:List Nat),(du 92 [92,92] s).length<=2*s.length
 | []=>aw _
 | c::s=>by
  have ih:=xr s;show(match aW c 92 with | true=> [92,92]++du 92 [92,92] s | false=>c::du 92 [92,92] s).length<=2*(s.length+1);cases aW c 92 with
  | true=>show(du 92 [92,92] s).length+1+1<=_;exact(bE (eS bf) (fZ 2 cN) [(ai,fZ 2 ay)] aR ih)
  | false=>show(du 92 [92,92] s).length+1<=_;exact(bE bf (fZ 2 cN) [(ai,fZ 2 ay)] aR ih)
def LU{s:List Nat}(h:s.length<=1000):Fh [34] (.str s) 92 [92,92] 34 [92,34]=some (.str ([34]++cA s)):=by
 have l1:=xr s;have l2:=jN s;show eU (cF s.length && cF (du 92 [92,92] s).length && cF (1+(du 34 [92,34] (du 92 [92,92] s)).length) && true && true && true && true) (some (AV.str ([34]++du 34 [92,34] (du 92 [92,92] s))))=_
 erw [xt,(aM (by exact(cz ai cX [(ai,aG 1000)] aR h))),(aM (by exact(bE ai cX [(ai,fZ 2 ay),(ay,aG 1000),(ay,aG 1000)] aR l1 h h))),(aM (by exact(bE (aJ (aG 1) ai) cX [(ai,fZ 2 ay),(ay,aG 1000),(ay,aG 1000)] aR l2 h h)))]
 rfl
end
section
mutual
variable{j:Nat}
variable{d n:Nat}{H aq H':Hp}{dk sc tb rw dc τ k kl i:Nat}{es es':List (List Nat×AV)}{v:AV}{x:D}{ls:Ls}
def LW.put{c:Cell}{vs:List AV}(W:LW H dk sc tb rw dc τ es)(hk:Hk H kl (.list vs))(h1:kl≠dk)(h2:kl≠sc)(h3:kl≠rw):LW (H.set kl c) dk sc tb rw dc τ es:=by
 have K:Keep (·≠kl) H (H.set kl c):=Keep.set λo=>o rfl;exact⟨W.hD.keep K h1.symm h2.symm,W.hT.keep K (aZ W.hT.ht hk λe=>nomatch e) h3.symm (aZ W.hT.hd hk λe=>nomatch e) (λk n s g=>aZ g hk λe=>nomatch e),W.nr,W.ns⟩
noncomputable abbrev TP(dk tb k:Nat)(x:Option AV):Ls:= [some (.ref dk),some (.ref tb),some (.int (k:Nat)),none,none,none,none,none,none,none,none,none,none,none,x,none]
def u5(h1:kl≠dk)(h2:kl≠sc)(h3:kl≠rw):∀(m:Nat) {H:Hp} {τ:Nat} {us:List Nat} {a:Int} {x:Option AV},LW H dk sc tb rw dc τ es->Hk H kl (.list (us.map λc:Nat=> .int c))->us.length+m<=1000->τ+m<=100000->(∀c∈us,c∈mi)->
  ∃(cs:List Nat) (H':Hp),cs.length=us.length+m/\(∀c∈cs,c∈mi)/\lM (d+3) (TP dk tb k x) H (.rng a 1 m) (.one 14) none (.call 123 [(.v 0),(.lit (.a (mi.map λc:Nat=> .int c)))]) kl H'/\LW H' dk sc tb rw dc (τ+m) es/\Hk H' kl (.list (cs.map λc:Nat=> .int c))/\Keep (λi=>i≠dk/\i≠kl) H H'
 | 0,H,τ,us,a,x,W,hk,_,_,hc=>(HR us H rfl hc (gn rfl) W hk .refl)
 | m+1,H,τ,us,a,x,W,hk,hu,hτ,hc=>by
  refine gS (W.d123 (d:=d+1) (vs:=mi.map λc:Nat=> .int c) (by exact(bE ai (aG 100000) [(aJ ai cN,aG 100000)] aR hτ)) (by decide) (by decide)) λi v aq hi e W1 K1=>?_;refine aL (cM.mp (bM hi)) λc hm xq1=>?_;subst xq1;have g1:=K1.at_ _ _ h1 hk;have W2:=W1.put (c:= .list ((us++ [c]).map λc:Nat=> .int c)) g1 h1 h2 h3;refine Gn (u5 h1 h2 h3 m (a:=a+1) (x:=some (.int a)) W2 (cO (bw g1)) (by erw [af];show us.length+1+m<=_;exact(bE (aJ bf ay) (aG 1000) [(aJ ai cN,aG 1000)] aR hu)) (by exact(bE (aJ bf ay) (aG 100000) [(aJ ai cN,aG 100000)] aR hτ)) (λy hy=>(dy.mp hy).elim (hc y) λq=>by erw [fD.mp q];exact hm)) λcs H' l hcs e2 W3 hk' K3=>?_;refine HR cs H' (by erw [l,af];show us.length+1+m=_;exact gq ..) hcs (iZ (v:= .int a) (it':= .rng (a+1) 1 m) rfl rfl (bg (bV rfl (gR ao)) e) g1 (aM (by erw [aK];exact(bE ai cX [(aJ ai cN,aG 1000)] aR hu))) ?_) ((by erw [(show τ+(m+1)=τ+1+m from by exact(bI (bE (aJ ai cN) (aJ bf ay) [] aR) (bE (aJ bf ay) (aJ ai cN) [] aR)))];exact W3)) hk' ((K1.weak λzz o=>o.1).trans ((Keep.set λo=>o.2 rfl).trans K3))
  erw [(show(us.map λc:Nat=>AV.int c)++ [.int c]=(us++ [c]).map λc:Nat=> .int c from by erw [bp];rfl)]
  exact e2
def N4{H:Hp}:∀i:Nat,i<5->gA H (.rng 0 i 1)=some (.rng 0 1 i):=by
 have t:∀i:Nat,i<5->cw 0 i 1=true/\g9 0 i 1=i:=by decide
 intro i h;show eU (cw 0 i 1) (some (It.rng 0 1 (g9 0 i 1)))=_
 erw [(t i h).1,(t i h).2];rfl
def NI(W:LW H dk sc tb rw dc τ es)(hτ:τ<=90000):oX d H dk sc tb rw dc τ es (KR 6) 6:=by
 refine fy (W.d122 (d:=d+2) (n:=5) (by decide) (by exact(cz ai (aG 100000) [(ai,aG 90000)] aR hτ))) λi aq hi e1 W1 K1=>?_;have low:=W1.low;have K2:Keep all aq (aq++ [.list []]):=Keep.app;refine Gn (u5 (d:=d) (tb:=tb) (dc:=dc) (k:=6) (kl:=aq.length) (es:=es) (Ne.symm (aC low.1)) (Ne.symm (aC low.2.1)) (Ne.symm (aC low.2.2.2.1)) i (us:= []) (a:=0) (x:=none) (W1.more K2) aU (by show 0+i<=_;exact(cz (aJ (aG 0) ai) (aG 1000) [(bf,aG 5)] aR hi)) (by exact(bE (aJ bf ay) (aG 100000) [(cN,aG 5),(ai,aG 90000)] aR hi hτ)) (λzz m=>nomatch m)) λcs aO l hcs e2 W2 hk K3=>?_;rw[dW,jh]at l;have lc:cs.length<=1000000:=by exact(bE ai cX [(ai,ay),(cN,aG 5)] aR (pJ l) hi)
 have fl:(cs.map λc=> [c]).flatten=cs:=pU cs;have em:Re (d+3) [some (.ref dk),some (.ref tb),some (.int ((6:Nat):Int)),none,none,none,none,none,none,none,none,none,some (.ref aq.length),none,none,none] aO (.comp (.bi .chr [.v 14]) (.one 14) (.v 12) false none) (.ref aO.length,aO++ [.list ((cs.map λc=> [c]).map .str)]):=by
  erw [iC]
  exact JO (f:=λc:Nat=> .int c) (g:=λc=> .str [c]) rfl rfl (ah rfl) hk (λx m ls H hi=>JQ hi (qe x (hcs x m))) lc
 have j:=oU em aU (by erw [aK];exact lc) (by erw [fl];exact lc);rw[fl]at j;have g:(D.text cs).good:=⟨by exact(bE ai (aG 4) [(ai,ay),(cN,aG 5)] aR (pJ l) hi),hcs⟩;have Ka:Keep (λi=>Hj dk rw dc i/\i<aq.length) H (aO++ [.list ((cs.map λc=> [c]).map .str)]):=(K1.weak λzz o=>o.1.1).trans ((K2.weak λzz zy=>trivial).trans ((K3.weak λi o=>⟨o.1.1,aC o.2⟩).trans Keep.app));have K4:Keep (Hj dk rw dc) H (aO++ [.list ((cs.map λc=> [c]).map .str)]):=Ka.below λi h o=>⟨o,al h K1.len⟩;have gk:Hk (aO++ [Cell.list ((cs.map λc=> [c]).map AV.str)]++ [Cell.n 5 [(19,AV.ref aq.length)]]) (aq.length) (.list (cs.map λc:Nat=> .int c)):=bC (bC hk);have el:=jN cs;exact yf _ (.text cs) _ es _ (cK (kY rfl (eH (ak (bg (bV rfl (gR ao)) e1) ao) rfl) (N4 i hi) e2) rfl (cK j rfl (fx (hY (gG (ak (ah rfl) ao) rfl Tl) (bS (OX (ah rfl) (LU (by exact(bE ai (aG 1000) [(ai,ay),(cN,aG 5)] aR (pJ l) hi)))) az (d8 (by erw [af];show 1+_+1<=_;exact(gj (eS (aJ (aG 1) ai)) cX [(ai,fZ 2 ay),(ay,bF),(ay,bF),(l9,aG 5),(l9,aG 5)] aR el (pJ l) (pJ l) hi hi)))) (ah rfl))))) (xK (x:= .text cs) ((((W2.more Keep.app).more Keep.app).le (σ:=τ+6) (by exact(bE (aJ bf ay) (aJ ai (aG 6)) [(cN,aG 5)] aR hi)))) .refl (K4.trans Keep.app) g (CE _ aq.length rfl (jU aU rfl (λzz zy h=>nomatch h)) aU (⟨λc zz=> .inl K1.len,λi s e=>nomatch gk.symm.trans e⟩) gk)) rfl
def oX.hit{b ss:List S}(P:oX d H dk sc tb rw dc τ es b j):oX d H dk sc tb rw dc τ es (.ite (.j .eq (.v 2) (.lit (.int (j:Int)))) b []::ss) j:=
 P.elim λki h=>h.elim λx h=>h.elim λH' h=>h.elim λes' h=>h.elim λls' h=>(Oe ki x H' es' ls' (Mn rfl rfl h.1) h.2)
def oX.skip{b ss:List S}{k:Int}(h:(j:Int)≠k)(P:oX d H dk sc tb rw dc τ es ss j):oX d H dk sc tb rw dc τ es (.ite (.j .eq (.v 2) (.lit (.int k))) b []::ss) j:=
 P.elim λki q=>q.elim λx q=>q.elim λH' q=>q.elim λes' q=>q.elim λls' q=>(Oe ki x H' es' ls' (IR rfl h q.1) q.2)
def TG{p:Nat->Prop}(h0:p 0)(h1:p 1)(h2:p 2)(h3:p 3)(h4:p 4)(h5:p 5)(h6:p 6)(h7:p 7)(i:Nat)(hi:i<8):p i:=by
 rcases i with _ | _ | _ | _ | _ | _ | _ | _ | i
 ·exact h0
 ·exact h1
 ·exact h2
 ·exact h3
 ·exact h4
 ·exact h5
 ·exact h6
 ·exact h7
 ·exact absurd hi (iA.mpr (eE 8 i))
def NG(W:LW H dk sc tb rw dc τ es)(hτ:τ<=90000):∀i<8,oX d H dk sc tb rw dc τ es (Ff.body.drop 1) i:=
 TG (NP W hτ).hit (.skip (by decide) (NO W hτ).hit) (.skip (by decide) (.skip (by decide) (NN W hτ).hit)) (.skip (by decide) (.skip (by decide) (.skip (by decide) (NM W hτ).hit))) (.skip (by decide) (.skip (by decide) (.skip (by decide) (.skip (by decide) (NL W hτ).hit))))
  (.skip (by decide) (.skip (by decide) (.skip (by decide) (.skip (by decide) (.skip (by decide) (NJ W hτ).hit))))) (.skip (by decide) (.skip (by decide) (.skip (by decide) (.skip (by decide) (.skip (by decide) (.skip (by decide) (NI W hτ).hit))))))
  (.skip (by decide) (.skip (by decide) (.skip (by decide) (.skip (by decide) (.skip (by decide) (.skip (by decide) (.skip (by decide) (NH W))))))))
def L7(W:LW H dk sc tb rw dc τ es)(hτ:τ<=80000):∃ki x H' es',aP (d+4) H 127 [.ref dk, .ref tb] (.ref ki,H')/\Made H H' dk sc tb rw dc (τ+7) es es' ki x/\x.atom=true:=by
 refine fy (W.d122 (d:=d+2) (n:=8) (by decide) (by exact(cz ai (aG 100000) [(ai,aG 80000)] aR hτ))) λi aq hi e W1 K=>?_;refine P6 (NG (d:=d) W1 (by exact(cz bf (aG 90000) [(ai,aG 80000)] aR hτ)) i hi) λki x H' es' ls' h M ha=>?_;refine dq (M.it) λv hv hk r=>?_;exact yg ki x H' es' (bx (F:=Ff) rfl rfl rfl (cK (bg (bV rfl (gR ao)) e) rfl h)) (⟨M.W.le (by exact(cz (aJ bf (aG 6)) (aJ ai (aG 7)) [] aR)),M.sb,(eF v hv (aj K.len hk) (r.move (ok:=all) .refl iD.lt .refl K.len)),M.g,(uq K).trans M.K⟩) ha
end
end
mutual
def Nh:(names.all λs=>decide (1<=s.length) && decide (s.length<=12))=true:=by decide+kernel
def Kh:(mY.all λr=>decide (1<=(fP r.1 r.2).length) && decide ((fP r.1 r.2).length<=12))=true:=by decide+kernel
def mB{c:Nat}:1<=(gZ c).length/\(gZ c).length<=12:=by
 unfold gZ;rcases Decidable.em (c=32)with h | h
 ·erw [if_pos h];exact⟨by decide,by decide⟩
 ·erw [if_neg h]
  rcases Decidable.em (c=10)with h2 | h2
  ·erw [if_pos h2];exact⟨by decide,by decide⟩
  ·erw [if_neg h2];exact⟨ab rfl,ab rfl⟩
def yc{i:Int}(h:i.natAbs<=1000):1<=(dG i).length:=by
 refine gy ((zR h).hd) λc w e zz=>?_
 erw [e];exact dA (aX _)
def tR:∀(x:D),x.good->x.atom=true->1<=(tx true x).length/\(tx true x).length<=12/\(tx false x).length<=(tx true x).length
 | .bool b,_,_=>(eC (ab rfl) (ab rfl) (aw _))
 | .int i,g,_=>by
  have h:i.natAbs<=1000:=by have:-1000<=i/\i<1000:=g;exact(pK (eB [_] [] 0 (.ik 0) (.ip (.iv 0) (.ic (aG 1000))) (.hz (.ik (-1000)) (.iv 0) .ho) (by kernel_rfl) this.1) (eB [_] [] 0 (.iv 0) (.ic (aG 1000)) (.hz (.ip (.iv 0) (.ik 1)) (.ik 1000) .ho) (by kernel_rfl) this.2))
  exact eC (yc h) (aj (iX h) (by decide)) (aw _)
 | .empty,_,_=>⟨by decide,by decide,aw _⟩
 | .ratio p q,g,_=>by
  have g:2<=q/\q<10/\∃k:Int,-10<=k/\k<10/\p=q*k+1:=g;refine Go (pC g.1 g.2.1 g.2.2) λn xq1 h1 h2 h3 h4=>?_;subst xq1;have l1:=iX h3;have l2:=(jK h2).2.2.1;rw[show(tx true (.ratio p n)).length=(dG p).length+(1+(bQ n).length)from by erw [se,af,aI];rewrite [dn 1];rfl];refine eC (by exact(bE (aG 1) (aJ ai (aJ (aG 1) ay)) [] aR)) (by exact(bE (aJ ai (aJ (aG 1) ay)) (aG 12) [(ay,aG 4),(ai,aG 5)] aR l2 l1)) ?_;rw[show(tx false (.ratio p n)).length=(dG p).length+(1+(bQ n).length)from(by
   show(dG p++ [47]++bQ n).length=_
   erw [af,af];show _+1+_=_;exact f6 ..)];exact aw _
 | .real m e,g,_=>by
  have h:=ag.mp (aS.mp Kh (m,e) g);exact eC (of_decide_eq_true h.1) (of_decide_eq_true h.2) (aw _)
 | .sym s,g,_=>by
  have h:=ag.mp (aS.mp Nh s g);exact eC (of_decide_eq_true h.1) (of_decide_eq_true h.2) (aw _)
 | .char c,_,_=>(eC mB.1 mB.2 mB.1)
 | .text cs,g,_=>by
  have h:=jN cs;have h2:cs.length<=(cA cs).length:=esc_ge cs;have g1:cs.length<=4:=g.1
  erw [(show(tx true (.text cs)).length=1+(cA cs).length+1 from by show([34]++cA cs++ [34]).length=_;erw [af,af];rfl),(show(tx false (.text cs)).length=cs.length from rfl)]
  exact eC (by exact(cz (aG 1) (eS (aJ (aG 1) ai)) [] aR)) (by exact(bE (eS (aJ (aG 1) ai)) (aG 12) [(ai,fZ 2 ay),(ay,aG 4),(ay,aG 4)] aR h g1 g1)) (by exact(bE ai (eS (aJ (aG 1) ay)) [(ai,ay)] aR h2))
where esc_ge:∀cs:List Nat,cs.length<=(cA cs).length
 | []=>aw _
 | c::r=>by
  have ih:=esc_ge r;unfold cA;rcases Decidable.em (c=34\/c=92)with h | h
  ·erw [if_pos h];show r.length+1<=_+1+1;exact(bE bf (eS cN) [(ai,ay)] aR ih)
  ·erw [if_neg h];exact dA ih
def vu(w:Bool):∀(x:D),(x= .empty/\(tl w x).length=1)\/((∃a b,x= .pair a b)/\(tl w x).length=(tx w x).length)\/(x.end_=true/\(tl w x).length=(tx w x).length+4)
 | .empty=> .inl ⟨rfl,rfl⟩
 | .pair a b=> .inr (.inl ⟨⟨a,b,rfl⟩,by show([32]++(Dg w a).1++(Dg w b).2).length=([40]++(Dg w a).1++(Dg w b).2).length;rewrite [af];erw [af,af,af];rfl⟩)
 | .bool _=> .inr (.inr ⟨rfl,dot_len _⟩)
 | .int _=> .inr (.inr ⟨rfl,dot_len _⟩)
 | .ratio _ _=> .inr (.inr ⟨rfl,dot_len _⟩)
 | .real _ _=> .inr (.inr ⟨rfl,dot_len _⟩)
 | .sym _=> .inr (.inr ⟨rfl,dot_len _⟩)
 | .char _=> .inr (.inr ⟨rfl,dot_len _⟩)
 | .text _=> .inr (.inr ⟨rfl,dot_len _⟩)
 | .vec _ _=> .inr (.inr ⟨rfl,dot_len _⟩)
where dot_len (t:List Nat):([32,46,32]++t++ [41]).length=t.length+4:=by erw [af,af];show 3+t.length+1=_;exact(bI (cz (eS (aJ (aG 3) ai)) (aJ ai (aG 4)) [] aR) (cz (aJ ai (aG 4)) (eS (aJ (aG 3) ai)) [] aR))
def mU{w:Bool}{a b:D}:(tx w (.pair a b)).length=1+(tx w a).length+(tl w b).length:=by
 show([40]++tx w a++tl w b).length=_
 erw [af,af];rfl
def oz{w:Bool}{a b:D}:(tx w (.vec a b)).length=4+(tx w a).length+(tx w b).length:=by
 show([35,40]++tx w a++ [32]++tx w b++ [41]).length=_
 erw [af,af,af,af]
 show 2+_+1+_+1=_;exact(bI (bE (eS (aJ (eS (aJ (aG 2) ai)) ay)) (aJ (aJ (aG 4) ai) ay) [] aR) (bE (aJ (aJ (aG 4) ai) ay) (eS (aJ (eS (aJ (aG 2) ai)) ay)) [] aR))
def z4(x:D)(g:x.good):1<=(tx true x).length/\(tx false x).length<=(tx true x).length/\sz x+1<=3*(tx true x).length:=by
 have at_:∀(x:D),x.good->x.atom=true->sz x=1->1<=(tx true x).length/\(tx false x).length<=(tx true x).length/\sz x+1<=3*(tx true x).length:=λx g h hz=>by
  have:=tR x g h
  erw [hz]
  exact eC this.1 this.2.2 (by exact(cz (eS (aG 1)) (fZ 3 ai) [(aG 1,ai),(aG 1,ai)] aR this.1 this.1))
 induction x with
 | bool zz=>exact at_ _ g rfl rfl
 | int zz=>exact at_ _ g rfl rfl
 | empty=>exact at_ _ g rfl rfl
 | ratio zz zy=>exact at_ _ g rfl rfl
 | real zz zy=>exact at_ _ g rfl rfl
 | sym zz=>exact at_ _ g rfl rfl
 | char zz=>exact at_ _ g rfl rfl
 | text zz=>exact at_ _ g rfl rfl
 | vec a b ia ib=>
  have ia:=ia g.1;have ib:=ib g.2
  erw [oz,oz,(show sz (D.vec a b)=4+sz a+sz b from rfl)]
  exact⟨(bE (aG 1) (aJ (aJ (aG 4) ai) ay) [] aR),⟨(gU (aJ (aJ (aG 4) ai) ay) (aJ (aJ (aG 4) bF) cP) [(ay,cP),(ai,bF)] aR ib.2.1 ia.2.1),(gU (eS (aJ (aJ (aG 4) ai) ay)) (fZ 3 (aJ (aJ (aG 4) bF) cP)) [(cN,fZ 3 cP),(bf,fZ 3 bF)] aR ib.2.2 ia.2.2)⟩⟩
 | pair a b ia ib=>
  have ia:=ia g.1;have ib:=ib g.2
  erw [mU,mU,(show sz (D.pair a b)=3+sz a+sz b from rfl)]
  have h1:(tl false b).length<=(tl true b).length/\sz b<=3*(tl true b).length:=by
   rcases vu true b with⟨e,h⟩ | ⟨⟨c,c',e⟩,h⟩ | ⟨e,h⟩
   ·subst e;exact⟨aw _,by show 1<=3*1;decide⟩
   ·rcases vu false b with⟨e',_⟩ | ⟨_,h'⟩ | ⟨e',_⟩
    ·rw[e']at e;exact nomatch e
    ·exact⟨(gU ai ay [(ai,bF),(bF,cP),(cP,ay)] aR (pJ h') ib.2.1 (lq h)),(gj ai (fZ 3 ay) [(bf,fZ 3 bF),(bF,ay),(bF,ay),(bF,ay)] aR ib.2.2 (lq h) (lq h) (lq h))⟩
    ·rw[e]at e';exact nomatch e'
   ·rcases vu false b with⟨e',_⟩ | ⟨⟨_,_,e'⟩,_⟩ | ⟨_,h'⟩
    ·rw[e']at e;exact nomatch e
    ·rw[e']at e;exact nomatch e
    ·exact⟨(gU ai ay [(ai,aJ bF (aG 4)),(bF,cP),(aJ cP (aG 4),ay)] aR (pJ h') ib.2.1 (lq h)),(gj ai (fZ 3 ay) [(bf,fZ 3 bF),(aJ bF (aG 4),ay),(aJ bF (aG 4),ay),(aJ bF (aG 4),ay)] aR ib.2.2 (lq h) (lq h) (lq h))⟩
  exact⟨(bE (aG 1) (aJ (aJ (aG 1) ai) ay) [] aR),⟨(gU (aJ (aJ (aG 1) ai) ay) (aJ (aJ (aG 1) bF) cP) [(ay,cP),(ai,bF)] aR h1.1 ia.2.1),(gU (eS (aJ (aJ (aG 3) ai) ay)) (fZ 3 (aJ (aJ (aG 1) bF) cP)) [(ay,fZ 3 cP),(bf,fZ 3 bF)] aR h1.2 ia.2.2)⟩⟩
noncomputable abbrev uf(v:AV)(x:D):Cell:= .list [v, .str (tx true x), .str (tx false x)]
noncomputable abbrev Qr:List S:= [(.ite (.j .is (.idx (.v 1) (.lit (.int 0))) (.lit (.obj 0))) [(.expr (.meth (.v 2) 0 [(.o .add (.o .add (.lit (.str [40])) (.idx (.v 0) (.v 3))) (.lit (.str [41])))]))] [(.ite (.h (.idx (.v 1) (.lit (.int 0))) (.cls 3)) [(.expr (.meth (.v 2) 0 [(.o .add (.o .add (.o .add (.lit (.str [40])) (.idx (.v 0) (.v 3))) (.lit (.str [32]))) (.slice (.idx (.v 1) (.v 3)) (some (.lit (.int 1))) none))]))] [(.expr (.meth (.v 2) 0 [(.o .add (.o .add (.o .add (.o .add (.lit (.str [40])) (.idx (.v 0) (.v 3))) (.lit (.str [32,46,32]))) (.idx (.v 1) (.v 3))) (.lit (.str [41])))]))])])]
def Ly{ok:Nat->Prop}{H:Hp}{v:AV}:∀(x:D),gI ok H v x->(x= .empty/\Dk v (.obj 0)=some true)\/(x≠ .empty/\Dk v (.obj 0)=some false)
 | .empty,h=> .inl ⟨rfl,by cases (h:v=_);rfl⟩
 | .bool _,h=> .inr ⟨nofun,by cases (h:v=_);rfl⟩
 | .int _,h=> .inr ⟨nofun,by cases (h:v=_);rfl⟩
 | .ratio _ _,h=> .inr ⟨nofun,by refine aL h λzz xq1 zy=>?_;subst xq1;rfl⟩
 | .real _ _,h=> .inr ⟨nofun,by refine aL h λzz xq2 zy=>?_;subst xq2;rfl⟩
 | .sym _,h=> .inr ⟨nofun,by refine gy h λzz zy xq3 zx=>?_;subst xq3;rfl⟩
 | .char _,h=> .inr ⟨nofun,by refine aL h λzz xq4 zy=>?_;subst xq4;rfl⟩
 | .text _,h=> .inr ⟨nofun,by refine gy h λzz zy xq5 zx=>?_;subst xq5;rfl⟩
 | .vec _ _,h=> .inr ⟨nofun,by refine Nc h λzz zy zx zw xq6 zv=>?_;subst xq6;rfl⟩
 | .pair _ _,h=> .inr ⟨nofun,by refine vo h λzz zy zx xq7 zw=>?_;subst xq7;rfl⟩
def HJ{ok:Nat->Prop}{H:Hp}{v:AV}(x:D)(h:gI ok H v x):((∃a b,x= .pair a b)/\kh P H (.cls 3) v=some true)\/(x.end_=true\/x= .empty)/\kh P H (.cls 3) v=some false:=by
 cases x using D.casesOn with
 | pair a b=>refine gS h λk zz zy xq8 zx q zw=>?_;subst xq8;exact .inl ⟨⟨a,b,rfl⟩,bY q⟩
 | vec a b=>refine w2 h λk zz zy zx xq9 zw q zv=>?_;subst xq9;exact .inr ⟨.inl rfl,bY q⟩
 | empty=>exact .inr ⟨.inr rfl,(iG _ rfl h).1⟩
 | bool zz=>exact .inr ⟨.inl rfl,(iG _ rfl h).1⟩
 | int zz=>exact .inr ⟨.inl rfl,(iG _ rfl h).1⟩
 | ratio zz zy=>exact .inr ⟨.inl rfl,(iG _ rfl h).1⟩
 | real zz zy=>exact .inr ⟨.inl rfl,(iG _ rfl h).1⟩
 | sym zz=>exact .inr ⟨.inl rfl,(iG _ rfl h).1⟩
 | char zz=>exact .inr ⟨.inl rfl,(iG _ rfl h).1⟩
 | text zz=>exact .inr ⟨.inl rfl,(iG _ rfl h).1⟩
def Kp{w:Bool}:∀{x:D},x.end_=true->tl w x= [32,46,32]++tx w x++ [41]
 | .bool _,_=>rfl
 | .int _,_=>rfl
 | .ratio _ _,_=>rfl
 | .real _ _,_=>rfl
 | .sym _,_=>rfl
 | .char _,_=>rfl
 | .text _,_=>rfl
 | .vec _ _,_=>rfl
end
section
mutual
variable{d n:Nat}{H aq H':Hp}{k1 k2 kl j:Nat}{v1 v2:AV}{a b:D}{w:Bool}{ok:Nat->Prop}{us:List AV}
def pL{k:Nat}{v:AV}{x:D}(h:Hk H k (uf v x))(hj:j=cond w 1 2):rN H (.ref k) (.int (j:Nat))=some (.str (tx w x)):=fi h fN (by erw [hj];induction w using aE <;> rfl)
def Bg(h1:Hk H k1 (uf v1 a))(h2:Hk H k2 (uf v2 b))(hl:Hk H kl (.list us))(hj:j=cond w 1 2)(r:gI ok H v2 b)(la:(tx w a).length<=1000)(lb:(tx w b).length<=1000)(hu:us.length<=1000):gH d [some (.ref k1),some (.ref k2),some (.ref kl),some (.int (j:Nat)),none,none] H Qr (.next,[some (.ref k1),some (.ref k2),some (.ref kl),some (.int (j:Nat)),none,none],H.set kl (.list (us++ [.str (tx w (.pair a b))]))):=by
 have i0:Re d [some (.ref k1),some (.ref k2),some (.ref kl),some (.int (j:Nat)),none,none] H (.idx (.v 1) (.lit (.int 0))) (v2,H):=dC (ah rfl) az (fi (i:=0) h2 fN rfl);have i1:Re d [some (.ref k1),some (.ref k2),some (.ref kl),some (.int (j:Nat)),none,none] H (.idx (.v 0) (.v 3)) (.str (tx w a),H):=dC (ah rfl) (ah rfl) (pL h1 hj);have i2:Re d [some (.ref k1),some (.ref k2),some (.ref kl),some (.int (j:Nat)),none,none] H (.idx (.v 1) (.v 3)) (.str (tx w b),H):=dC (ah rfl) (ah rfl) (pL h2 hj);have b1:nW .add (.str [40]) (.str (tx w a)) H=some (.str ([40]++tx w a),H):=d8 (by show 1+_<=_;exact(cz (aJ (aG 1) ai) cX [(ai,aG 1000)] aR la));have l1:([40]++tx w a).length=1+(tx w a).length:=af;have push:∀{x:E} {s:List Nat},Re d [some (.ref k1),some (.ref k2),some (.ref kl),some (.int (j:Nat)),none,none] H x (.str s,H)->s=tx w (.pair a b)->gH d [some (.ref k1),some (.ref k2),some (.ref kl),some (.int (j:Nat)),none,none] H [.expr (.meth (.v 2) 0 [x])] (.next,[some (.ref k1),some (.ref k2),some (.ref kl),some (.int (j:Nat)),none,none],H.set kl (.list (us++ [.str (tx w (.pair a b))]))):=λh e=>e ▸uv (ft (ah rfl) hl h hl (aM (by exact(cz ai cX [(ai,aG 1000)] aR hu)))) ba;rcases Ly b r with⟨rfl,he⟩ | ⟨hne,he⟩
 ·exact aB (ff (gN i0 az he) (push (bS (bS az i1 b1) az (d8 (by erw [l1];show _+1<=_;exact(cz (eS (aJ (aG 1) ai)) cX [(ai,aG 1000)] aR la)))) rfl)) ba
 ·rcases HJ b r with⟨⟨c,c',rfl⟩,hp⟩ | ⟨hq,hp⟩
  ·refine aB (cU (gN i0 az he) (aB (ff (gE rfl (iY i0 hp)) (push (bS (bS (bS az i1 b1) az (d8 (by erw [l1];show _+1<=_;exact(cz (eS (aJ (aG 1) ai)) cX [(ai,aG 1000)] aR la)))) (oS i2 az (oF (i:=1) (by exact aj lb (ab rfl)))) (d8 ?_)) ?_)) ba)) ba
   ·erw [af,l1,d6];show _+1+_<=_;exact(gj (aJ (eS (aJ (aG 1) ai)) ay) cX [(ay,bF),(bF,aG 1000),(ai,aG 1000)] aR (wI _ _) lb la)
   ·show [40]++tx w a++ [32]++(tx w (.pair c c')).drop 1= [40]++tx w a++([32]++tx w c++tl w c')
    erw [aA];rewrite [aA];erw [aA,aA];rfl
  ·refine aB (cU (gN i0 az he) (aB (cU (gE rfl (iY i0 hp)) (push (bS (bS (bS (bS az i1 b1) az (d8 (by erw [l1];show _+3<=_;exact(cz (aJ (aJ (aG 1) ai) (aG 3)) cX [(ai,aG 1000)] aR la)))) i2 (d8 ?_)) az (d8 ?_)) ?_)) ba)) ba
   ·erw [af,l1];show _+3+_<=_;exact(bE (aJ (aJ (aJ (aG 1) ai) (aG 3)) ay) cX [(ay,aG 1000),(ai,aG 1000)] aR lb la)
   ·erw [af,af,l1];show _+3+_+1<=_;exact(bE (eS (aJ (aJ (aJ (aG 1) ai) (aG 3)) ay)) cX [(ay,aG 1000),(ai,aG 1000)] aR lb la)
   ·show [40]++tx w a++ [32,46,32]++tx w b++ [41]= [40]++tx w a++tl w b
    erw [Kp (hq.resolve_right hne),aA,aA];rewrite [aA];erw [aA,aA];rfl
def Rx(h1:Hk H k1 (uf v1 a))(h2:Hk H k2 (uf v2 b))(r:gI ok H v2 b)(la:∀w,(tx w a).length<=1000)(lb:∀w,(tx w b).length<=1000):∃kp ki H',aP (d+2) H 128 [.ref k1, .ref k2] (.ref ki,H')/\Hk H' ki (uf (.ref kp) (.pair a b))/\Hk H' kp (.n 3 [(16,v1),(17,v2)])/\H.length<=kp/\H.length<=ki/\Keep all H H':=by
 have K0:Keep all H (H++ [Cell.n 3 [(16,v1),(17,v2)]]):=Keep.app;have l0:(H++ [Cell.n 3 [(16,v1),(17,v2)]]).length=H.length+1:=af;have g0:=aU (H:=H++ [Cell.n 3 [(16,v1),(17,v2)]]) (c:= .list [.ref H.length]);have Ka:Keep (· <(H++ [Cell.n 3 [(16,v1),(17,v2)]]).length) (H++ [Cell.n 3 [(16,v1),(17,v2)]]) (H++ [Cell.n 3 [(16,v1),(17,v2)]]++ [Cell.list [AV.ref H.length]]):=Keep.app;have Kb:Keep (· <(H++ [Cell.n 3 [(16,v1),(17,v2)]]).length) (H++ [Cell.n 3 [(16,v1),(17,v2)]]) ((H++ [Cell.n 3 [(16,v1),(17,v2)]]++ [Cell.list [AV.ref H.length]]).set (H++ [Cell.n 3 [(16,v1),(17,v2)]]).length (Cell.list ([AV.ref H.length]++ [AV.str (tx true (.pair a b))]))):=Ka.trans (Keep.set λo=>jQ _ o);have gb:=cO (c:= .list ([.ref H.length]++ [.str (tx true (.pair a b))])) (bw g0);have Kc:=Kb.trans (Keep.set (k:=(H++ [Cell.n 3 [(16,v1),(17,v2)]]).length) (c:= .list ([.ref H.length]++ [.str (tx true (.pair a b))]++ [.str (tx false (.pair a b))])) λo=>jQ _ o);have ra:=(r.mono (ok':=(· <(H++ [Cell.n 3 [(16,v1),(17,v2)]]).length)) (H':=H++ [Cell.n 3 [(16,v1),(17,v2)]]) (λk c o e=>⟨gJ (bw e) (by exact(bE bf ay [(bf,ay)] aR (lq l0))),K0.at_ k c trivial e⟩) b);have p1:R.ss (d+1) [some (.ref k1),some (.ref k2),some (.ref (H++ [Cell.n 3 [(16,v1),(17,v2)]]).length),some (.int ((1:Nat):Int)),none,none] _ Qr=_:=Bg (d:=d+1) (w:=true) (j:=1) (Ka.at_ _ _ (by have:=bw h1;exact(gj bf ay [(bf,bF),(l9,ay)] aR this (lq l0))) (K0.at_ _ _ trivial h1)) (Ka.at_ _ _ (by have:=bw h2;exact(gj bf ay [(bf,bF),(l9,ay)] aR this (lq l0))) (K0.at_ _ _ trivial h2)) g0 rfl (ra.keep Ka) (la true) (lb true) (ab rfl);have p2:R.ss (d+1) [some (.ref k1),some (.ref k2),some (.ref (H++ [Cell.n 3 [(16,v1),(17,v2)]]).length),some (.int ((2:Nat):Int)),none,none] _ Qr=_:=Bg (d:=d+1) (w:=false) (j:=2) (Kb.at_ _ _ (by have:=bw h1;exact(gj bf ay [(bf,bF),(l9,ay)] aR this (lq l0))) (K0.at_ _ _ trivial h1)) (Kb.at_ _ _ (by have:=bw h2;exact(gj bf ay [(bf,bF),(l9,ay)] aR this (lq l0))) (K0.at_ _ _ trivial h2)) gb rfl (ra.keep Kb) (la false) (lb false) (ab rfl);exact LB H.length _ _ (bx (F:=OG) rfl rfl rfl (cK (fK (ak (gG (ak (dC (ah rfl) az (fi (i:=0) h1 fN rfl)) (ak (dC (ah rfl) az (fi (i:=0) h2 fN rfl)) ao)) rfl To) ao) (aM (ab rfl))) rfl (aB (mL (gQ (gR (gR ao)) (aM (ab rfl))) rfl (fq rfl rfl p1 (fq rfl rfl p2 (iH rfl)))) (fx (ah rfl))))) (cO (bw gb)) (Kc.at_ _ _ (by show H.length<_;exact(bE bf ay [(bf,ay)] aR (lq l0))) aU) (aw _) (by exact(bE ai ay [(bf,ay)] aR (lq l0))) ((K0.trans (Kc.below λi h zz=>h)))
end
end
mutual
abbrev Pn(n kp:Nat)(H:Hp)(es:List (List Nat×AV))(k:Nat):Prop:=Nw n H es k/\k≠kp
structure PIt(n kp:Nat)(H:Hp)(es:List (List Nat×AV))(t ki:Nat)(x:D):Prop where
 it:∃v,Hk H ki (uf v x)/\gI (Pn n kp H es) H v x
 ne:ki≠kp
 lo:n<=ki
 g:x.good
 len:(tx true x).length<=49
 dp:dp x<=2*t
abbrev y0(n kp:Nat)(H:Hp)(ok:Nat->Prop):Prop:= ∀k c,Hk H k c->n<=k\/qQ c=true->k≠kp->ok k
end
section
mutual
variable{k1 k2 t1 t2:Nat}
variable{d n kp t:Nat}{H aq H':Hp}{dk sc tb rw dc τ k ki i:Nat}{es es':List (List Nat×AV)}{v:AV}{x:D}{ls:Ls}{ok:Nat->Prop}{ws:List AV}
def iD.p(h:iD n H ok):y0 n kp H ok:=λk c e o zz=>h k c e o
def mX(r:gI (Pn n kp H es) H v x)(K:Keep ok H H')(h:y0 n kp H ok)(s:Sub es es'):gI (Pn n kp H' es') H' v x:=by
 refine r.mono (λk c o e=>?_) x v;have e':=K.at_ k c (h k c e (o.1.1 c e) o.2) e;exact⟨⟨⟨λc' g=>by cases e'.symm.trans g;exact o.1.1 c e,λi s' g=>by cases e'.symm.trans g;exact s _ _ (o.1.2 i s' e)⟩,o.2⟩,e'⟩
def PIt.move(p:PIt n kp H es t ki x)(K:Keep ok H H')(h:y0 n kp H ok)(s:Sub es es'):PIt n kp H' es' t ki x:=by
 refine aL (p.it) λv hv r=>?_;exact⟨⟨v,K.at_ _ _ (h ki _ hv (.inl p.lo) p.ne) hv,mX r K h s⟩,p.ne,p.lo,p.g,p.len,p.dp⟩
def PIt.le{t':Nat}(p:PIt n kp H es t ki x)(h:t<=t'):PIt n kp H es t' ki x:=⟨p.it,p.ne,p.lo,p.g,p.len,aj p.dp (Nat.mul_le_mul_left 2 h)⟩
def NA{m:Nat}(r:gI (Nw m H es) H v x)(hm:n<=m)(hk:kp<m)(hp:Hk H kp (.list ws)):gI (Pn n kp H es) H v x:=
 r.mono (λk c o e=>⟨⟨⟨λc' g=>(o.1 c' g).imp (aj hm) id,o.2⟩,λq=>by
  subst q;cases hp.symm.trans e
  cases o.1 _ hp with
  | inl h=>exact absurd hk (Nat.not_lt_of_le h)
  | inr h=>exact nomatch h⟩,e⟩) x v
def LW.has(W:LW H dk sc tb rw dc τ es)(h1:dk<n)(h2:rw<n)(h3:dc<n):iD n H (Hj dk rw dc):=by
 obtain⟨xq1,_⟩:=W.hD.cells;refine t9 xq1 λa b c h=>?_;refine aL (W.hT.hr) λrs hr zz=>?_;exact λk c e o=>(eC (iD.ne h h1 rfl k c e o) (iD.ne hr h2 rfl k c e o) (iD.ne W.hT.hd h3 rfl k c e o))
def BH:∀(x:D),x.atom=true->dp x=0
 | .bool _,_=>rfl
 | .int _,_=>rfl
 | .empty,_=>rfl
 | .ratio _ _,_=>rfl
 | .real _ _,_=>rfl
 | .sym _,_=>rfl
 | .char _,_=>rfl
 | .text _,_=>rfl
def Made.item(M:Made H H' dk sc tb rw dc τ es es' ki x)(ha:x.atom=true)(hn:n<=H.length)(hk:kp<H.length)(hp:Hk H' kp (.list ws)):PIt n kp H' es' t ki x:=by
 refine dq (M.it) λv hv hki r=>?_;exact⟨⟨v,hv,NA r hn hk hp⟩,Ne.symm (aC (al hk hki)),aj hn hki,M.g,aj (tR x M.g ha).2.1 (by decide),by erw [BH x ha];exact aX _⟩
structure LBase(n kp dk sc rw dc:Nat):Prop where
 dk:dk<n
 sc:sc<n
 rw:rw<n
 dc:dc<n
 kp:n<=kp
def LBase.okp(b:LBase n kp dk sc rw dc):Hj dk rw dc kp:=(eC (Ne.symm (aC (al b.dk b.kp))) (Ne.symm (aC (al b.rw b.kp))) (Ne.symm (aC (al b.dc b.kp))))
def qD{a b:D}(B:LBase n kp dk sc rw dc)(p1:PIt n kp H es t1 k1 a)(p2:PIt n kp H es t2 k2 b)(hk:kp<H.length)(hn:n<=H.length)(hl:1+(tx true a).length+(tl true b).length<=49)(hd:1+max (Mine.Internal.dp a) (Mine.Internal.dp b)<=2*t):∃ki H',aP (d+2) H 128 [.ref k1, .ref k2] (.ref ki,H')/\PIt n kp H' es t ki (.pair a b)/\Keep all H H':=by
 refine aL (p1.it) λv1 h1 r1=>?_;refine aL (p2.it) λv2 h2 r2=>?_;have la:=z4 a p1.g;have lb:=z4 b p2.g;have l1:=p1.len;have l2:=p2.len;refine Gm (Rx (d:=d) h1 h2 r2 (λw=>by induction w using aE <;> (first | lia | omega)) (λw=>by induction w using aE <;> (first | lia | omega))) λkq ki H' e hi hq nq ni K=>?_;have hh:y0 n kp H all:=λzz zy zx zw zv=>trivial;exact i5 ki H' e (⟨⟨.ref kq,hi,(iR kq v1 v2 rfl (⟨jU hq rfl (λzz zy h=>nomatch h),Ne.symm (aC (al hk nq))⟩) hq (mX r1 K hh .refl) (mX r2 K hh .refl))⟩,Ne.symm (aC (al hk ni)),aj hn ni,⟨p1.g,p2.g⟩,by erw [mU];exact hl,hd⟩) K
def w7{w:Bool}{a b:D}{ls:Ls}{x y:E}(hx:Re d ls H x (.str (tx w a),H))(hy:Re d ls H y (.str (tx w b),H))(la:(tx w a).length<=1000)(lb:(tx w b).length<=1000):Re d ls H (.o .add (.o .add (.o .add (.o .add (.lit (.str [35,40])) x) (.lit (.str [32]))) y) (.lit (.str [41]))) (.str (tx w (.vec a b)),H):=
 bS (bS (bS (bS az hx (d8 (by show 2+_<=_;exact(cz (aJ (aG 2) ai) cX [(ai,aG 1000)] aR la)))) az (d8 (by erw [af];show 2+_+1<=_;exact(cz (eS (aJ (aG 2) ai)) cX [(ai,aG 1000)] aR la)))) hy (d8 (by erw [af,af];show 2+_+1+_<=_;exact(bE (aJ (eS (aJ (aG 2) ai)) ay) cX [(ay,aG 1000),(ai,aG 1000)] aR lb la)))) az (d8 (by erw [af,af,af];show 2+_+1+_+1<=_;exact(bE (eS (aJ (eS (aJ (aG 2) ai)) ay)) cX [(ay,aG 1000),(ai,aG 1000)] aR lb la)))
noncomputable abbrev MU(dk kp tb i k1 k2:Nat):Ls:= [some (.ref dk),some (.ref kp),some (.ref tb),some (.int (i:Nat)),some (.ref k1),some (.ref k2),none,none]
def Dt{i:Nat}{a b:D}(p1:PIt n kp H es t1 k1 a)(p2:PIt n kp H es t2 k2 b)(hk:kp<H.length)(hn:n<=H.length)(hl:4+(tx true a).length+(tx true b).length<=49)(hd:1+max (Mine.Internal.dp a) (Mine.Internal.dp b)<=2*t):∃ki H',Re (d+1) (MU dk kp tb i k1 k2) H (.list [(.new 6 [(.list [(.idx (.v 4) (.lit (.int 0))),(.idx (.v 5) (.lit (.int 0)))])]),(.o .add (.o .add (.o .add (.o .add (.lit (.str [35,40])) (.idx (.v 4) (.lit (.int 1)))) (.lit (.str [32]))) (.idx (.v 5) (.lit (.int 1)))) (.lit (.str [41]))),(.o .add (.o .add (.o .add (.o .add (.lit (.str [35,40])) (.idx (.v 4) (.lit (.int 2)))) (.lit (.str [32]))) (.idx (.v 5) (.lit (.int 2)))) (.lit (.str [41])))]) (.ref ki,H')/\PIt n kp H' es t ki (.vec a b)/\Keep all H H':=by
 refine aL (p1.it) λv1 h1 r1=>?_;refine aL (p2.it) λv2 h2 r2=>?_;have la:=z4 a p1.g;have lb:=z4 b p2.g;have l1:=p1.len;have l2:=p2.len;have K0:Keep all H (H++ [.list [v1,v2]]++ [.n 6 [(20, .ref H.length)]]):=Keep.app.trans Keep.app;have g1:=K0.at_ _ _ trivial h1;have g2:=K0.at_ _ _ trivial h2;have K:Keep all H (H++ [.list [v1,v2]]++ [.n 6 [(20, .ref H.length)]]++ [uf (.ref (H++ [Cell.list [v1,v2]]).length) (.vec a b)]):=K0.trans Keep.app;have hh:y0 n kp H all:=λzz zy zx zw zv=>trivial;have gv:Hk (H++ [Cell.list [v1,v2]]++ [Cell.n 6 [(20,AV.ref H.length)]]++ [uf (AV.ref (H++ [Cell.list [v1,v2]]).length) (.vec a b)]) ((H++ [Cell.list [v1,v2]]).length) (.n 6 [(20, .ref H.length)]):=bC aU;have gl:Hk (H++ [Cell.list [v1,v2]]++ [Cell.n 6 [(20,AV.ref H.length)]]++ [uf (AV.ref (H++ [Cell.list [v1,v2]]).length) (.vec a b)]) (H.length) (.list [v1,v2]):=bC (bC aU);have e3:=hY (d:=d+1) (ls:=MU dk kp tb i k1 k2) (H:=H) (gG (i:=6) (ak (fK (as:= [(.idx (.v 4) (.lit (.int 0))),(.idx (.v 5) (.lit (.int 0)))]) (ak (dC (ah rfl) az (fi (i:=0) h1 fN rfl)) (ak (dC (ah rfl) az (fi (i:=0) h2 fN rfl)) ao)) (aM (ab rfl))) ao) rfl Tj) (w7 (w:=true) (x:= .idx (.v 4) (.lit (.int 1))) (y:= .idx (.v 5) (.lit (.int 1))) (dC (ah rfl) az (pL (j:=1) g1 rfl)) (dC (ah rfl) az (pL (j:=1) g2 rfl)) (by exact(cz ai (aG 1000) [(ai,aG 49)] aR l1)) (by exact(bE ai (aG 1000) [((aJ (aJ (aG 4) ay) ai),aG 49)] aR hl))) (w7 (w:=false) (x:= .idx (.v 4) (.lit (.int 2))) (y:= .idx (.v 5) (.lit (.int 2))) (dC (ah rfl) az (pL (j:=2) g1 rfl)) (dC (ah rfl) az (pL (j:=2) g2 rfl)) (by exact(bE ai (aG 1000) [(ai,ay),(ay,aG 49)] aR la.2.1 l1)) (by exact(gj ai (aG 1000) [(ai,ay),((aJ (aJ (aG 4) bF) ay),aG 49)] aR lb.2.1 hl)));have ls:H.length<=(H++ [Cell.list [v1,v2]]).length:=(Keep.app (ok:=all)).len;have n1:kp≠(H++ [Cell.list [v1,v2]]).length:=aC (al hk ls);exact i5 _ _ e3 (⟨⟨_,aU,(HP _ H.length v1 v2 rfl (⟨jU gv rfl (λzz zy h=>nomatch h),n1.symm⟩) gv (⟨⟨λc zz=> .inl hn,λi s e=>nomatch gl.symm.trans e⟩,Ne.symm (aC hk)⟩) gl (mX r1 K hh .refl) (mX r2 K hh .refl))⟩,Ne.symm (aC (al hk K0.len)),aj hn K0.len,⟨p1.g,p2.g⟩,by erw [oz];exact hl,hd⟩) K
end
end
section
mutual
variable{d n kp t:Nat}{H aq H':Hp}{dk sc tb rw dc τ k ki i k1 k2:Nat}{es es':List (List Nat×AV)}{v:AV}{x a b:D}{ls:Ls}{ok:Nat->Prop}{ws:List AV}
def Np(x:D):(tl true x).length<=(tx true x).length+4:=by
 rcases vu true x with⟨e,h⟩ | ⟨_,h⟩ | ⟨_,h⟩ <;> (first | lia | omega)
def Ct(B:LBase n kp dk sc rw dc)(p1:PIt n kp H es t k1 a)(p2:PIt n kp H es t k2 b)(hk:kp<H.length)(hn:n<=H.length)(hl:(tx true a).length+(tx true b).length<=44):∃ki x H' ls',gH (d+5) (MU dk kp tb i k1 k2) H (CP.body.drop 3) (.ret (.ref ki),ls',H')/\PIt n kp H' es (t+1) ki x/\Keep all H H':=by
 have d1:=p1.dp;have d2:=p2.dp;have m1:1+max (Mine.Internal.dp a) (Mine.Internal.dp b)<=2*(t+1):=by have:=wK.mpr ⟨d1,d2⟩;exact(bE (aJ (aG 1) ai) (fZ 2 cN) [(ai,fZ 2 ay)] aR this)
 rcases Decidable.em (((i:Nat):Int)=1)with h | h
 ·refine dX (Dt (d:=d+4) (dk:=dk) (tb:=tb) (i:=i) (t:=t+1) p1 p2 hk hn (by exact(bE (aJ (aJ (aG 4) ai) ay) (aG 49) [(aJ ai ay,aG 44)] aR hl)) m1) λki H' e p K=>?_;exact yg ki _ H' _ (mu (cS rfl (dT h)) (fx e)) p K
 ·rcases Decidable.em (((i:Nat):Int)=2)with h2 | h2
  ·have K0:Keep all H (H++ [uf (.obj 0) .empty]):=Keep.app;have hh:y0 n kp H all:=λzz zy zx zw zv=>trivial;have n0:H.length≠kp:=Ne.symm (aC hk);have p0:PIt n kp (H++ [uf (.obj 0) .empty]) es 0 H.length .empty:=⟨⟨.obj 0,aU,rfl⟩,n0,hn,trivial,ab rfl,aX _⟩;have l0:(tl true D.empty).length=1:=rfl;refine dX (qD (d:=d+3) (t:=t+1) B (p2.move K0 hh .refl) p0 (al hk K0.len) (aj hn K0.len) (by lia) (by show 1+max (Mine.Internal.dp b) 0<=_;(clear l0 n0 h2 h m1 hl hn hk;lia))) λkj aq e1 q1 K1=>?_;have l1:(tl true (.pair b .empty)).length=(tx true b).length+2:=by
    show([32]++tx true b++ [41]).length=_
    erw [af,af];show 1+_+1=_;exact(bI (cz (eS (aJ (aG 1) ai)) (aJ ai (aG 2)) [] aR) (cz (aJ ai (aG 2)) (eS (aJ (aG 1) ai)) [] aR))
   refine dX (qD (d:=d+3) (t:=t+1) B ((p1.move K0 hh .refl).move K1 (λzz zy zx zw zv=>trivial) .refl) q1 (al (al hk K0.len) K1.len) (aj (aj hn K0.len) K1.len) (by exact(gj (aJ (aJ (aG 1) ai) ay) (aG 49) [(ay,aJ bF (aG 2)),(aJ ai bF,aG 44)] aR (pJ l1) hl)) (by
    have e0:Mine.Internal.dp (.pair b .empty)=1+max (Mine.Internal.dp b) 0:=rfl
    erw [e0,Nat.max_zero]
    have:=wK.mpr ⟨gK d1,show 1+Mine.Internal.dp b<=2*t+1 from by exact(bE (aJ (aG 1) ai) (eS (fZ 2 ay)) [(ai,fZ 2 ay)] aR d2)⟩
    exact(bE (aJ (aG 1) ai) (fZ 2 cN) [(ai,eS (fZ 2 ay))] aR this))) λki H' e p K=>?_;exact yg ki _ H' _ (ie (cS rfl (km h)) (mu (cS rfl (dT h2)) (fx (bg (ak (ah rfl) (ak (bg (ak (ah rfl) (ak (hY az az az) ao)) e1) ao)) e)))) p (K0.trans (K1.trans K))
  ·have l2:=Np b;refine dX (qD (d:=d+3) (t:=t+1) B p1 p2 hk hn (by exact(gj (aJ (aJ (aG 1) ai) ay) (aG 49) [(ay,aJ bF (aG 4)),(aJ ai bF,aG 44)] aR l2 hl)) m1) λki H' e p K=>?_;exact yg ki _ H' _ (ie (cS rfl (km h)) (ie (cS rfl (km h2)) (fx (bg (ak (ah rfl) (ak (ah rfl) ao)) e)))) p K
def Rw(W:LW H dk sc tb rw dc τ es)(hτ:τ<=70000)(B:LBase n kp dk sc rw dc)(hp:Hk H kp (.list ws))(hw:0<ws.length)(hw':ws.length<=1000000)(hi:∀w∈ws,∃ki x,w= .ref ki/\PIt n kp H es t ki x):∃ki x H' es',aP (d+6) H 129 [.ref dk, .ref kp, .ref tb] (.ref ki,H')/\LW H' dk sc tb rw dc (τ+10) es'/\Sub es es'/\PIt n kp H' es' (t+1) ki x/\Keep (Hj dk rw dc) H H':=by
 have nd:kp≠dk:=B.okp.1;refine fy (W.d122 (d:=d+4) (n:=6) (by decide) (by exact(cz ai (aG 100000) [(ai,aG 70000)] aR hτ))) λi aq zz e1 W1 K1=>?_;have hp1:=K1.at_ _ _ nd hp;refine gS (yI (d:=d+3) W1.hD (by exact(cz bf (aG 100000) [(ai,aG 70000)] aR hτ)) hp1 nd hw hw') λi2 v2 aO h2 e2 D2 K2=>?_;have W2:=W1.draw K2 D2;have hp2:=K2.at_ _ _ nd hp1;refine gS (yI (d:=d+3) W2.hD (by exact(cz (eS bf) (aG 100000) [(ai,aG 70000)] aR hτ)) hp2 nd hw hw') λi3 v3 dK h3 e3 D3 K3=>?_;have W3:=W2.draw K3 D3;have hp3:=K3.at_ _ _ nd hp2;have K:Keep (·≠dk) H dK:=K1.trans (K2.trans K3);refine gy (hi _ (bM h2)) λk1 a xq1 p1=>?_;subst xq1;refine gy (hi _ (bM h3)) λk2 b xq2 p2=>?_;subst xq2;obtain⟨xq3,_⟩:=W.hD.cells;refine t9 xq3 λz1 z2 z3 hdk=>?_;have hh:iD n H (·≠dk):=iD.ne hdk B.dk rfl;have q1:=p1.move K hh.p .refl;have q2:=p2.move K hh.p .refl;refine aL (q1.it) λu1 c1 zz=>?_;refine aL (q2.it) λu2 c2 zz=>?_;have l1:=q1.len;have l2:=q2.len;have sum:Re (d+5) (MU dk kp tb i k1 k2) dK (.o .add (.bi .len [(.idx (.v 4) (.lit (.int 1)))]) (.bi .len [(.idx (.v 5) (.lit (.int 1)))])) (.int (((tx true a).length:Int)+((tx true b).length:Int)),dK):=bS (eH (ak (dC (ah rfl) az (pL (w:=true) (j:=1) c1 rfl)) ao) (len_str (by exact(cz ai cX [(ai,aG 49)] aR l1)))) (eH (ak (dC (ah rfl) az (pL (w:=true) (j:=1) c2 rfl)) ao) (len_str (by exact(cz ai cX [(ai,aG 49)] aR l2)))) rfl;have hn3:n<=dK.length:=aj (aj B.kp (d5 (bw hp))) K.len;have fin:∀{o:Fl×Ls×Hp},gH (d+5) (MU dk kp tb i k1 k2) dK (CP.body.drop 2) o->gH (d+5) [some (.ref dk),some (.ref kp),some (.ref tb),none,none,none,none,none] H CP.body o:=λh=>cK (bg (bV rfl (gR ao)) e1) rfl (lP (gQ (ak (bg (bV rfl (ak (ah rfl) ao)) e2) (ak (bg (bV rfl (ak (ah rfl) ao)) e3) ao)) (aM (ab rfl))) (mm (di (eh rfl) (di (eh rfl) jB))) h);rcases Decidable.em (((i:Nat):Int)=0\/(44:Int)<((tx true a).length:Int)+((tx true b).length:Int))with h | h
 ·refine w3 (L7 (d:=d+1) W3 (by exact(cz (eS (eS bf)) (aG 80000) [(ai,aG 70000)] aR hτ))) λki x mJ es4 e4 M ha=>?_;have hp4:=M.K.at_ _ _ B.okp hp3;have t0:Rt (d+5) (MU dk kp tb i k1 k2) dK (.or (.j .eq (.v 3) (.lit (.int 0))) (.j .gt (.o .add (.bi .len [(.idx (.v 4) (.lit (.int 1)))]) (.bi .len [(.idx (.v 5) (.lit (.int 1)))])) (.lit (.int 44)))) (true,dK):=by
   rcases Decidable.em (((i:Nat):Int)=0)with h0 | h0
   ·exact zb (cS rfl (dT h0))
   ·exact iP (cS rfl (km h0)) (gN sum az (dT (h.resolve_left h0)))
  exact tA ki x mJ es4 (bx (F:=CP) rfl rfl rfl (fin (mu t0 (fx (bg (bV rfl (ak (ah rfl) ao)) e4))))) (M.W.le (by exact(cz (aJ (eS (eS bf)) (aG 7)) (aJ ai (aG 10)) [] aR))) M.sb (M.item ha hn3 (bw hp3) hp4) ((uq K).trans M.K)
 ·refine w3 (Ct (d:=d) (tb:=tb) (i:=i) B q1 q2 (bw hp3) hn3 (by lia)) λki x mJ ls' e4 p K4=>?_;exact tA ki x mJ es (bx (F:=CP) rfl rfl rfl (fin (ie (iP (cS rfl (km λe=>h (.inl e))) (gN sum az (dF λe=>h (.inr e)))) e4))) ((W3.more K4).le (by exact(cz (eS (eS bf)) (aJ ai (aG 10)) [] aR))) .refl p ((uq K).trans (K4.weak λzz zy=>trivial))
end
end
section
mutual
variable{sc:List Int}
variable{d:Nat}{H H':Hp}{l0 l1 l3:Option AV}
def Ep{l:Nat}{as:List Int}(hl:Hk H l (.list (as.map .int))):∀(m j:Nat) (us:List AV) (x:Option AV),as.length<=j+m->us.length+(as.length-j)<=1000->
  ∃us',lM d [l0,l1,x,l3] (H++ [.list us]) (.cell l j) (.one 2) (some (.j .lt (.v 2) (.lit (.int 0)))) (.v 2) H.length (H++ [.list us'])/\us'.length<=1000:=by
 have nx:∀(us:List AV) j,It.next (H++ [.list us]) (.cell l j)=some (((as.map AV.int)[j]?).map λv=>(v, .cell l (j+1))):=λus j=>gi (fj (bC hl));intro m
 induction m with
 | zero=>
  intro j us x hj hu;exact bH us (gn (by erw [nx,(ey (by erw [aK];exact hj))];rfl)) (by exact(bE ai (aG 1000) [(aJ ai ay,aG 1000)] aR hu))
 | succ m ih=>
  intro j us x hj hu;cases ha:as[j]? with
  | none=>
   have hj':=fm.mp ha;exact bH us (gn (by erw [nx,(ey (by erw [aK];exact hj'))];rfl)) (by exact(bE ai (aG 1000) [(aJ ai ay,aG 1000)] aR hu))
  | some a=>
   have n:It.next (H++ [.list us]) (.cell l j)=some (some (.int a, .cell l (j+1))):=by erw [nx,eu,ha];rfl
   have lt:=(aT.mp ha).1;rcases Decidable.em (a<0)with h | h
   ·refine aL (ih (j+1) (us++ [.int a]) (some (.int a)) (by exact(gj ai (aJ cN bF) [(ai,aJ ay l9)] aR hj)) (by erw [af];show us.length+1+_<=_;exact(Ai (aJ bf ay) (aG 1000) [(aJ ay l9,cP),(cP,aJ nU bF),(aJ ai nU,aG 1000)] aR (pJ (dU lt)) (tg _ _) hu))) λus' e hu'=>?_;exact bH us' (As n rfl (cS rfl (dT h)) (ah rfl) aU (aM (by exact(bE ai cX [(aJ ai ay,aG 1000)] aR hu))) (by erw [lC];exact e)) hu'
   ·refine aL (ih (j+1) us (some (.int a)) (by exact(gj ai (aJ cN bF) [(ai,aJ ay l9)] aR hj)) (by exact(Ai (aJ ai ay) (aG 1000) [(aJ ay l9,cP),(cP,aJ nU bF),(aJ ai nU,aG 1000)] aR (pJ (dU lt)) (tg _ _) hu))) λus' e hu'=>?_;exact bH us' (u0 n rfl (cS rfl (dF h)) e) hu'
def xk{vs:List AV}(h:vs.length<=1000000):iw (.a vs) none (some (.int 30)) H=some (.ref H.length,H++ [.list (vs.take 30)]):=by
 show eU (cF vs.length) (some (lK H (.list ((vs.take 30).drop 0))))=_
 erw [aM h];rfl
def Rz(hs:sc.length<=1000000):∃dk s H',aP (d+1) H 124 [.a (sc.map .int), .int 30] (.ref dk,H')/\Deck H' dk s 0/\H.length<=dk/\H.length<=s/\Keep all H H':=by
 have ls:(sc.map AV.int).length<=1000000:=by erw [aK];exact hs
 have tk:(sc.map AV.int).take 30=(sc.take 30).map .int:=List.map_take.symm;have lt:(sc.take 30).length<=30:=by erw [lW];exact Nat.min_le_left _ _
 have g1:(H++ [Cell.list ((sc.take 30).map AV.int)])[H.length]? =_:=aU;have e1:=yB (d:=d) (H:=H++ [Cell.list ((sc.take 30).map AV.int)]) (f:= .int) (g:=λi:Int=> .int i.natAbs) (a:= .bi .abs [.v 2]) (i:=2) g1 (λx m ls H hi=>eH (ak (ah (k8 (cL.mp hi))) ao) rfl) (sc.take 30).length 0 [] [some (.a (sc.map .int)),some (.int 30),none,none] rfl (by exact(cz ai (aJ (aG 0) ai) [] aR)) (by show 0+_<=_;exact(cz (aJ (aG 0) ai) (aJ cX (aG 0)) [(ai,aG 30)] aR lt));have c1:Re d [some (.a (sc.map .int)),some (.int 30),none,none] H (.comp (.bi .abs [(.v 2)]) (.one 2) (.slice (.v 0) none (some (.v 1))) false none) (.ref (H++ [Cell.list ((sc.take 30).map AV.int)]).length,H++ [Cell.list ((sc.take 30).map AV.int)]++ [.list ((sc.take 30).map λi:Int=> .int i.natAbs)]):=kY rfl (kX (ah rfl) (ah rfl) (by erw [xk ls,tk];rfl)) (jt g1) e1;have K1:Keep all H (H++ [Cell.list ((sc.take 30).map AV.int)]++ [Cell.list ((sc.take 30).map λi:Int=>AV.int i.natAbs)]):=Keep.app.trans Keep.app;have g2:(H++ [Cell.list ((sc.take 30).map AV.int)]++ [Cell.list ((sc.take 30).map λi:Int=>AV.int i.natAbs)]++ [Cell.list ((sc.take 30).map AV.int)])[(H++ [Cell.list ((sc.take 30).map AV.int)]++ [Cell.list ((sc.take 30).map λi:Int=>AV.int i.natAbs)]).length]? =_:=aU;refine aL (Ep (d:=d) (l0:=some (.a (sc.map .int))) (l1:=some (.int 30)) (l3:=none) g2 (sc.take 30).length 0 [] none (by exact(cz ai (aJ (aG 0) ai) [] aR)) (by show 0+_<=_;exact(bE (aJ (aG 0) ai) (aG 1000) [(ai,ay),(ay,aG 30)] aR (wI _ _) lt))) λus' e2 hu'=>?_;have c2:=kY (d:=d) (ls:= [some (.a (sc.map .int)),some (.int 30),none,none]) (pt:= .one 2) (cnd:=some (.j .lt (.v 2) (.lit (.int 0)))) (b:= .v 2) (a:= .slice (.v 0) none (some (.v 1))) rfl (kX (H:=H++ [Cell.list ((sc.take 30).map AV.int)]++ [Cell.list ((sc.take 30).map λi:Int=>AV.int i.natAbs)]) (ah rfl) (ah rfl) (by erw [xk ls,tk];rfl)) (jt g2) e2;have g3:(H++ [Cell.list ((sc.take 30).map AV.int)])[(H++ [Cell.list ((sc.take 30).map AV.int)]).length]? =none:=ey (aw _);have gs:Hk (H++ [Cell.list ((sc.take 30).map AV.int)]++ [Cell.list ((sc.take 30).map λi:Int=>AV.int i.natAbs)]) ((H++ [Cell.list ((sc.take 30).map AV.int)]).length) (.list ((sc.take 30).map λi:Int=> .int i.natAbs)):=aU;have K2:Keep all (H++ [Cell.list ((sc.take 30).map AV.int)]++ [Cell.list ((sc.take 30).map λi:Int=>AV.int i.natAbs)]) (H++ [Cell.list ((sc.take 30).map AV.int)]++ [Cell.list ((sc.take 30).map λi:Int=>AV.int i.natAbs)]++ [Cell.list ((sc.take 30).map AV.int)]++ [Cell.list us']++ [Cell.list [AV.ref (H++ [Cell.list ((sc.take 30).map AV.int)]).length,AV.int 0,AV.int (977+(us'.length:Int))]]):=Keep.app.trans (Keep.app.trans Keep.app);exact iR _ _ _ (bx (F:=OI) rfl rfl rfl (fx (hY c1 az (bS az (eH (ak c2 ao) (kg aU (by exact(cz ai cX [(ai,aG 1000)] aR hu')))) rfl)))) (⟨(sc.take 30).map λi:Int=>(i.natAbs:Int),0,977+(us'.length:Int),aU,by erw [iC];exact K2.at_ _ _ trivial gs,aw _,by exact(eB [] [_] 0 (.ik 0) (.ip (.ik 977) (.ic ai)) .ho aR),by exact(eB [] [_] 0 (.ip (.ip (.ik 977) (.ic ai)) (.ik 1)) (.ik 4294967296) (.hn ai (aG 1000) .ho) aR hu'),by erw [aK];exact(cz ai (aG 1000) [(ai,aG 30)] aR lt)⟩) ((K1.trans ((Keep.app (L:= [Cell.list ((sc.take 30).map AV.int)])).trans (Keep.app (L:= [Cell.list us'])))).len) ((Keep.app (ok:=all)).len) (K1.trans K2)
def JE{N:Nat}(h:N<8):gA H (.rng 0 N 1)=some (.rng 0 1 N):=by
 have t:∀i:Nat,i<8->cw 0 i 1=true/\g9 0 i 1=i:=by decide
 show eU (cw 0 N 1) (some (It.rng 0 1 (g9 0 N 1)))=_
 erw [(t N h).1,(t N h).2];rfl
def Jf{ls:Ls}(a b:Nat)(h0:ls[0]? =some (some (.a (sc.map .int))))(hs:sc.length<=1000000)(k m:Nat)(hk:0<k)(hk':k<=1000):Re d ls H (.bi .range [(.o .add (.lit (.int a)) (.o .fdiv (.bi .min [(.bi .len [(.v 0)]),(.lit (.int m))]) (.lit (.int k))))]) (.rng 0 ((a+min sc.length m / k:Nat):Int) 1,H):=by
 have ln:Re d ls H (.bi .len [.v 0]) (.int (sc.length:Int),H):=eH (ak (ah h0) ao) (by
  show eU (cF (sc.map AV.int).length) _=_
  erw [aK,aM hs];rfl);have mn:BR .min [.int (sc.length:Int), .int (m:Int)] H=some (.int ((min sc.length m:Nat):Int),H):=by
  show some (AV.int (if(m:Int)<(sc.length:Int)then(m:Int)else(sc.length:Int)),H)=_
  rcases yU m sc.length with h | h
  ·erw [if_pos (fW.mpr h),AL (d5 h)];rfl
  ·erw [if_neg (jf.mpr (bO.mpr h)),iK h];rfl
 exact eH (ak (bS az (bS (eH (ak ln (gR ao)) mn) az (BC hk (fC hk' (al (show 1000<10 ^ 4 from ab rfl) (cp (cH _) (ab rfl)))))) rfl) ao) (by
  show some (AV.rng 0 ((a:Int)+lh ((min sc.length m:Nat):Int) (k:Int)) 1,H)=_
  erw [<- Int.ofNat_fdiv];rfl)
end
end
mutual
structure PL(n kp:Nat)(H:Hp)(dk sc tb rw dc τ:Nat)(es:List (List Nat×AV))(t:Nat)(ws:List AV):Prop where
 W:LW H dk sc tb rw dc τ es
 B:LBase n kp dk sc rw dc
 hp:Hk H kp (.list ws)
 hi:∀w∈ws,∃ki x,w= .ref ki/\PIt n kp H es t ki x
 hw:0<ws.length
end
section
mutual
variable{d n kp t:Nat}{H aq H':Hp}{dk sc tb rw dc τ k ki i:Nat}{es es':List (List Nat×AV)}{v v0:AV}{x:D}{ls:Ls}{ok:Nat->Prop}{ws:List AV}
def PL.keep(p:PL n kp H dk sc tb rw dc τ es t ws)(K:Keep ok H H')(h:∀k,k<H.length->ok k):PL n kp H' dk sc tb rw dc τ es t ws:=
 ⟨p.W.keep K h,p.B,K.at_ _ _ (h _ (bw p.hp)) p.hp,λw m=>by refine gy (p.hi w m) λki x e q=>?_;exact⟨ki,x,e,q.move K (λk c e zz zy=>h k (bw e)) .refl⟩,p.hw⟩
def PL.more(p:PL n kp H dk sc tb rw dc τ es t ws)(K:Keep all H H'):PL n kp H' dk sc tb rw dc τ es t ws:=p.keep K λzz zy=>trivial
def PL.hasd(p:PL n kp H dk sc tb rw dc τ es t ws):iD n H (·≠dk):=by
 obtain⟨xq1,_⟩:=p.W.hD.cells;refine t9 xq1 λz1 z2 z3 hdk=>?_;exact iD.ne hdk p.B.dk rfl
def PL.draw{τ':Nat}(p:PL n kp H dk sc tb rw dc τ es t ws)(K:Keep (·≠dk) H H')(D':Deck H' dk sc τ'):PL n kp H' dk sc tb rw dc τ' es t ws:=
 ⟨p.W.draw K D',p.B,K.at_ _ _ p.B.okp.1 p.hp,λw m=>by refine gy (p.hi w m) λki x e q=>?_;exact⟨ki,x,e,q.move K p.hasd.p .refl⟩,p.hw⟩
def LBase.nsc(B:LBase n kp dk sc rw dc):kp≠sc:=Ne.symm (aC (al B.sc B.kp))
def PL.add(p:PL n kp H dk sc tb rw dc τ es t ws)(q:PIt n kp H es (t+1) ki x):PL n kp (H.set kp (.list (ws++ [.ref ki]))) dk sc tb rw dc τ es (t+1) (ws++ [.ref ki]):=by
 have K:Keep (·≠kp) H (H.set kp (.list (ws++ [.ref ki]))):=Keep.set λo=>o rfl;have hh:y0 n kp H (·≠kp):=λzz zy zx zw h=>h;refine⟨p.W.put p.hp p.B.okp.1 p.B.nsc p.B.okp.2.1,p.B,cO (bw p.hp),λw m=>?_,by erw [af];exact al p.hw (bu _ _)⟩;cases dy.mp m with
 | inl m=>refine gy (p.hi w m) λkj y e q=>?_;exact kS kj y e ((q.move K hh .refl).le (ow t))
 | inr m=>exact kS ki x (fD.mp m) (q.move K hh .refl)
noncomputable abbrev PJ(v0:AV)(dk tb kp:Nat)(x4:Option AV):Ls:= [some v0,some (.ref dk),some (.ref tb),some (.ref kp),x4,none,none,none,none,none,none,none,none,none]
def ux:∀(N:Nat) {H:Hp} {τ t:Nat} {es:List (List Nat×AV)} {ws:List AV} {a:Int} {x4:Option AV},PL n kp H dk sc tb rw dc τ es t ws->ws.length+N<=1000->τ+10*N<=60000->∃(ws':List AV) (es':List (List Nat×AV)) (x4':Option AV) (H':Hp),lL 199 (PJ v0 dk tb kp x4) H (.rng a 1 N) (.one 4) [(.expr (.meth (.v 3) 0 [(.call 129 [(.v 1),(.v 3),(.v 2)])]))] (.next,PJ v0 dk tb kp x4',H')/\PL n kp H' dk sc tb rw dc (τ+10*N) es' (t+N) ws'/\ws'.length<=1000
 | 0,H,τ,t,es,ws,a,x4,p,hl,_=>(yg ws es x4 H (iH rfl) p hl)
 | N+1,H,τ,t,es,ws,a,x4,p,hl,hτ=>by
  refine w1 (Rw (d:=193) p.W (by exact(bE ai (aG 70000) [(aJ ai (fZ 10 cN),aG 60000)] aR hτ)) p.B p.hp p.hw (by exact(bE ai cX [(aJ ai cN,aG 1000)] aR hl)) p.hi) λki x aq tI e W1 sb q K=>?_;have p1:PL n kp aq dk sc tb rw dc (τ+10) tI t ws:=⟨W1,p.B,K.at_ _ _ p.B.okp p.hp,λw m=>by refine gy (p.hi w m) λkj y e q=>?_;exact⟨kj,y,e,q.move K (p.W.has p.B.dk p.B.rw p.B.dc).p sb⟩,p.hw⟩;refine w3 (ux N (a:=a+1) (x4:=some (.int a)) (p1.add q) (by erw [af];show _+1+N<=_;exact(bE (aJ bf ay) (aG 1000) [(aJ ai cN,aG 1000)] aR hl)) (by exact(bE (aJ (aJ ai (aG 10)) (fZ 10 ay)) (aG 60000) [(aJ ai (fZ 10 cN),aG 60000)] aR hτ))) λws' es' x4' H' e2 p2 hl'=>?_;exact yg ws' es' x4' H' (fq (v:= .int a) (it':= .rng (a+1) 1 N) rfl rfl (uv (ft (ah rfl) p.hp (bg (bV rfl (bV rfl (ak (ah rfl) ao))) e) p1.hp (aM (by exact(bE ai cX [(aJ ai cN,aG 1000)] aR hl)))) ba) e2) (by erw [(show τ+10*(N+1)=τ+10+10*N from by exact(bI (bE (aJ ai (fZ 10 cN)) (aJ (aJ ai (aG 10)) (fZ 10 ay)) [] aR) (bE (aJ (aJ ai (aG 10)) (fZ 10 ay)) (aJ ai (fZ 10 cN)) [] aR))),(show t+(N+1)=t+1+N from by exact(bI (bE (aJ ai cN) (aJ bf ay) [] aR) (bE (aJ bf ay) (aJ ai cN) [] aR)))];exact p2) hl'
def gI.any{ok:Nat->Prop}(r:gI ok H v x):gI all H v x:=r.mono (λk c zz e=>⟨trivial,e⟩) x v
def Er{m:Nat}(h:Pd (rk x) m)(hm:m<=64):iI H .ne (rk x) (rk x)=some false:=by
 have go:∀{vs:List AV},Pd (.U vs) m->iI H .ne (.U vs) (.U vs)=some false:=fun{vs} h=>by
  refine dq h λp a b c=>?_
  show(CU ((toPDs vs).map .tuple) ((toPDs vs).map .tuple)).map (!·)=_
  erw [(show(toPDs vs).map PyData.tuple=some p from a),yw b (aj c hm)]
  rfl
 induction x using D.casesOn <;> exact go h
noncomputable abbrev Qq(v0:AV)(dk tb kp:Nat)(x4 x5 x6 x7 x8 x9:Option AV):Ls:= [some v0,some (.ref dk),some (.ref tb),some (.ref kp),x4,x5,x6,x7,x8,x9,none,none,none,none]
noncomputable abbrev S5:List S:= [(.ite (.or (.j .ne (.call 120 [(.v 5)]) (.v 6)) (.j .ne (.call 121 [(.v 5)]) (.v 7))) [(.ret (.lit (.bool false)))] []),(.aS (.v 8) (.new 2 [])),(.aS (.v 9) (.call 108 [(.v 6),(.v 8)])),(.ite (.or (.j .ne (.call 125 [(.v 9),(.v 8)]) (.call 125 [(.v 5),(.v 2)])) (.j .ne (.call 120 [(.v 9)]) (.v 6))) [(.ret (.lit (.bool false)))] [])]
def GW(g:x.good):Sk (tx true x) (tx true x++ []):=by
 refine gy (gP x g) λc u e h=>?_
 erw [bq,e]
 exact iN h
def check{x4 x8 x9:Option AV}(p:PL n kp H dk sc tb rw dc τ es t ws)(r:gI (Pn n kp H es) H v x)(g:x.good)(hl:(tx true x).length<=49)(hd:dp x<=20):∃x8' x9' H',gH 199 (Qq v0 dk tb kp x4 (some v) (some (.str (tx true x))) (some (.str (tx false x))) x8 x9) H S5 (.next,Qq v0 dk tb kp x4 (some v) (some (.str (tx true x))) (some (.str (tx false x))) x8' x9',H')/\PL n kp H' dk sc tb rw dc τ es t ws/\Keep (· <H.length) H H':=by
 have ln:=z4 x g;have hz:sz x<=900000:=by exact(bE ai (aG 900000) [(bf,fZ 3 ay),(ay,aG 49),(ay,aG 49),(ay,aG 49)] aR ln.2.2 hl hl hl)
 refine aL (O9 (d:=175) (FQ D8) x r.any g hz (by exact(cz ai cX [(ai,aG 49)] aR hl))) λHa ea Ka=>?_;refine aL (RA (d:=175) (FQ D8) x (r.any.keep Ka) g hz (by exact(bE ai cX [(ai,ay),(ay,aG 49)] aR ln.2.1 hl))) λHb eb Kb=>?_;refine jT (c3 (d:=198) (H:=Hb)) λrw' dc' Hc ec Tc nr nd Kc=>?_;refine gS (RJ (d:=175) (rest:= []) g Tc (by exact(cz ai cX [(ai,aG 49)] aR hl)) (GW g) (λc e=>nomatch e) .nil hz) λv' Hd es1 ed Td rd Kd=>?_;have Kab:Keep all H Hb:=Ka.trans Kb;have Kbd:Keep (· <Hb.length) Hb Hd:=Kc.trans (Kd.weak λi o=>(eC (al o Kc.len) (aC (al o nr)) (aC (al o nd))));have pd:=(p.more Kab).keep Kbd λzz h=>h;refine aL ((vJ Td x g hz).1 (e:=199) (by exact(bE (aJ ai (aG 2)) (aG 199) [(bf,fZ 3 ay),(ay,aG 49),(ay,aG 49),(ay,aG 49)] aR ln.2.2 hl hl hl)) rd .refl) λHe ee Ke=>?_;have pe:=pd.more Ke;have re:gI (Pn n kp He es) He v x:=mX (mX (mX r Kab (λzz zy zx zw zv=>trivial) .refl) Kbd (λk c e zz zy=>bw e) .refl) Ke (λzz zy zx zw zv=>trivial) .refl;refine aL ((vJ (n:=n) pe.W.hT x g hz).1 (e:=199) (by exact(bE (aJ ai (aG 2)) (aG 199) [(bf,fZ 3 ay),(ay,aG 49),(ay,aG 49),(ay,aG 49)] aR ln.2.2 hl hl hl)) (re.mono (λk c o e=>⟨o.1,e⟩) x v) .refl) λHf ef Kf=>?_;refine aL (O9 (d:=175) (FQ D8) x ((rd.any.keep Ke).keep Kf) g hz (by exact(cz ai cX [(ai,aG 49)] aR hl))) λHg eg Kg=>?_;have pg:=(pe.more Kf).more Kg;have ns:iI Hf .ne (rk x) (rk x)=some false:=Er (DX x g).1 (by exact(cz (aJ (fZ 3 ai) (aG 3)) (aG 64) [(ai,aG 20),(ai,aG 20),(ai,aG 20)] aR hd hd hd));exact LC _ _ Hg (ie (iP (gN (bg (bV rfl ao) ea) (ah rfl) (nH rfl)) (gN (bg (bV rfl ao) eb) (ah rfl) (nH rfl))) (cK (gG ao rfl ec) rfl (cK (bg (ak (ah rfl) (ak (ah rfl) ao)) ed) rfl (aB (cU (iP (gE rfl (dw (bg (ak (ah rfl) (ak (ah rfl) ao)) ee) (bg (ak (ah rfl) (ak (ah rfl) ao)) ef) ns)) (gE rfl (dw (bg (ak (ah rfl) ao) eg) (ah rfl) (nH rfl)))) ba) ba)))) pg ((Kab.weak λzz zy=>trivial).trans ((Kbd.weak λi o=>al o Kab.len).trans ((Ke.trans (Kf.trans Kg)).weak λzz zy=>trivial)))
end
end
mutual
class inductive F2{α β:Type}(Q:α->β->Prop):List α->List β->Prop
 | nil:F2 Q [] []
 | cons {a b as bs}:Q a b->F2 Q as bs->F2 Q (a::as) (b::bs)
end
section
mutual
variable{α β γ:Type}{Q:α->β->Prop}{as:List α}{bs:List β}
def F2.len(h:F2 Q as bs):as.length=bs.length:=by
 induction h with
 | nil=>rfl
 | cons zz zy ih=>exact congrArg (· +1) ih
def F2.ex:∀{as:List α},(∀a∈as,∃b,Q a b)->∃bs,F2 Q as bs
 | [],_=>⟨[], .nil⟩
 | a::as,h=>by
  obtain⟨b,q⟩:=h a bj;obtain⟨bs,f⟩:=F2.ex λa m=>h a (bN _ m);exact⟨b::bs, .cons q f⟩
end
end
mutual
abbrev GZ:List (List Nat):= [[32],[10],[32,59,120,10],[9]]
abbrev PA(x:D)(t:List Nat):Prop:=x.good/\(tx true x).length<=49/\∃s∈GZ,t=tx true x++s
abbrev Pass(s:List Nat):Prop:= ∀u r,Sk u r->Sk (s++u) r
def vP{c:Nat}(h:nV.contains c=true)(h2:c≠59){s:List Nat}(p:Pass s):Pass (c::s):=λu r k=> .blank h h2 (p u r k)
def pE:Pass []:=λzz zy k=>k
def xw:∀s∈GZ,Pass s/\(∀u,hZ (s++u))/\s.length<=4:=by
 have t1:Pass [10]:=vP rfl (by decide) pE;have t3:Pass [32,59,120,10]:=λu r k=> .blank rfl (by decide) (.line (u:= [120]) (s:=u) (λx m=>by cases m with | head=>decide | tail zz m=>exact nomatch m) (t1 u r k));intro s m;cases m with
 | head=>exact eC (vP rfl (by decide) pE) (λu=>hZ.cons rfl) (by decide)
 | tail zz m=>cases m with
  | head=>exact eC t1 (λu=>hZ.cons rfl) (by decide)
  | tail zz m=>cases m with
   | head=>exact eC t3 (λu=>hZ.cons rfl) (by decide)
   | tail zz m=>cases m with
    | head=>exact eC (vP rfl (by decide) pE) (λu=>hZ.cons rfl) (by decide)
    | tail zz m=>exact nomatch m
def Sq.pass{s:List Nat}{xs:List D}(p:Pass s)(q:Sq u xs):Sq (s++u) xs:=by
 cases q using Sq.casesOn with
 | nil k=>exact .nil (p _ _ k)
 | cons k hs g hz q=>exact .cons (p _ _ k) hs g hz q
set_option tactic.hygienic true in
theorem GU{xs:List D}{ts:List (List Nat)}(h:F2 PA xs ts):Sq (ts.flatten++ [59,41]) xs/\ts.flatten.length<=60*xs.length:=by
 induction h with
 | nil=>exact⟨.nil (.last λx m=>by cases m with | head=>decide | tail _ m=>exact nomatch m),aX _⟩
 | cons q f ih=>
  rename_i x t xs ts
  obtain⟨g,hl,s,hs,xq1⟩:=q;subst xq1;refine kE (xw s hs) λp st ls=>?_;have ln:=z4 x g;refine gy (gP x g) λc u e hc=>?_;constructor
  ·erw [k9,aA,aA]
   exact .cons (rest:=s++(ts.flatten++ [59,41])) (by erw [e];exact iN hc) (st _) g (by exact(bE ai (aG 900000) [(bf,fZ 3 ay),(ay,aG 49),(ay,aG 49),(ay,aG 49)] aR ln.2.2 hl hl hl)) (ih.1.pass p)
  ·erw [k9,af,af,aI]
   have:=ih.2;exact(gU (aJ (aJ ai ay) bF) (fZ 60 Qt) [(bF,fZ 60 cP),(ay,aG 4),(ai,aG 49)] aR ih.2 ls hl)
end
section
mutual
variable{α:Type}{j:Nat}{rs:List AV}
variable{n kp t RW:Nat}{H bT aq H':Hp}{dk sc tb rw dc τ k ki i kc kd:Nat}{es es':List (List Nat×AV)}{v v0:AV}{x:D}{ws us:List AV}{x4 x5 x6 x7 x8 x9 x10 x11:Option AV}
noncomputable abbrev Di(v0:AV)(dk tb kp:Nat)(x4 x5 x6 x7 x8 x9 x10 x11 x12:Option AV):Ls:= [some v0,some (.ref dk),some (.ref tb),some (.ref kp),x4,x5,x6,x7,x8,x9,x10,x11,x12,none]
def uH(hp:Hk bT kp (.list ws))(hpd:kp≠dk)(hw:0<ws.length)(hw':ws.length<=1000)(h1:bT.length<=kc)(hd:dk<bT.length)(hs:sc<bT.length):∀(m:Nat) {H:Hp} {τ:Nat} {us:List AV} {a:Int} {x12:Option AV},Deck H dk sc τ->Keep (λk=>k<bT.length/\k≠dk) bT H->Hk H kc (.list us)->(∀u∈us,u∈ws)->us.length+m<=1000->τ+m<=90000->
  ∃(us':List AV) (H':Hp),lM 199 (Di v0 dk tb kp x4 x5 x6 x7 x8 x9 x10 x11 x12) H (.rng a 1 m) (.one 12) none (.call 123 [.v 1, .v 3]) kc H'/\Deck H' dk sc (τ+m)/\Keep (λk=>k<bT.length/\k≠dk) bT H'/\Hk H' kc (.list us')/\(∀u∈us',u∈ws)/\us'.length=us.length+m
 | 0,H,τ,us,a,x12,D,K,hk,hu,_,_=>(HR us H (gn rfl) D K hk hu rfl)
 | m+1,H,τ,us,a,x12,D,K,hk,hu,hl,hτ=>by
  have hp':=K.at_ _ _ ⟨bw hp,hpd⟩ hp;have nk:kc≠dk:=Ne.symm (aC (al hd h1));have ns:kc≠sc:=Ne.symm (aC (al hs h1));refine gS (yI (d:=197) D (by exact(bE ai (aG 100000) [(aJ ai cN,aG 90000)] aR hτ)) hp' hpd hw (by exact(cz ai cX [(ai,aG 1000)] aR hw'))) λi v aq hi e D1 K1=>?_;have g1:=K1.at_ _ _ nk hk;have K2:Keep (·≠kc) aq (aq.set kc (.list (us++ [v]))):=Keep.set λo=>o rfl;refine Gn (uH hp hpd hw hw' h1 hd hs m (a:=a+1) (x12:=some (.int a)) (D1.keep K2 nk.symm ns.symm) ((K.trans (K1.weak λk o=>o.2)).trans (K2.weak λk o=>aC (al o.1 h1))) (cO (bw g1)) (λu m=>(dy.mp m).elim (hu u) λq=>by erw [fD.mp q];exact bM hi) (by erw [af];show us.length+1+m<=_;exact(bE (aJ bf ay) (aG 1000) [(aJ ai cN,aG 1000)] aR hl)) (by exact(bE (aJ bf ay) (aG 90000) [(aJ ai cN,aG 90000)] aR hτ))) λus' H' e2 D2 K3 h2 h3 h4=>?_;exact HR us' H' (iZ (v:= .int a) (it':= .rng (a+1) 1 m) rfl rfl (bg (bV rfl (bV rfl ao)) e) g1 (aM (by exact(bE ai cX [(aJ ai cN,aG 1000)] aR hl))) e2) (by erw [(show τ+(m+1)=τ+1+m from by exact(bI (bE (aJ ai cN) (aJ bf ay) [] aR) (bE (aJ bf ay) (aJ ai cN) [] aR)))];exact D2) K3 h2 h3 (by erw [h4,af];show us.length+1+m=_;exact gq ..)
abbrev Iw(n kp:Nat)(bT:Hp)(es:List (List Nat×AV))(t:Nat)(u:AV)(x:D):Prop:= ∃ki,u= .ref ki/\PIt n kp bT es t ki x
noncomputable abbrev Qe:E:= .o .add (.idx (.v 12) (.lit (.int 1))) (.call 123 [.v 1, .list [(.lit (.str [32])),(.lit (.str [10])),(.lit (.str [32,59,120,10])),(.lit (.str [9]))]])
def uZ{us rs:List α}{u:α}(h:us.drop j=u::rs):us[j]? =some u/\us.drop (j+1)=rs:=by
 constructor
 ·have:=wM (xs:=us) (i:=j) (j:=0);rw[h]at this;exact this.symm
 ·erw [<- List.drop_drop,h];rfl
def drop_nil{us:List α}(h:us.drop j= []):us[j]? =none:=ey (List.drop_eq_nil_iff.mp h)
set_option tactic.hygienic true in
theorem D5(hn:dk<n)(hk0:Hk bT kc (.list us))(hkd:kc≠dk)(h1:bT.length<=kd)(hd:dk<bT.length)(hs:sc<bT.length){ys:List D}(f:F2 (Iw n kp bT es t) rs ys):∀(j:Nat) {H:Hp} {τ:Nat} {ps:List (List Nat)} {x12:Option AV},us.drop j=rs->Deck H dk sc τ->Keep (λk=>k<bT.length/\k≠dk) bT H->Hk H kd (.list (ps.map .str))->ps.length+rs.length<=1000->τ+rs.length<=90000->
  ∃(ts:List (List Nat)) (H':Hp),F2 PA ys ts/\lM 199 (Di v0 dk tb kp x4 x5 x6 x7 x8 x9 x10 x11 x12) H (.cell kc j) (.one 12) none Qe kd H'/\Keep (λk=>k<bT.length/\k≠dk) bT H'/\Hk H' kd (.list ((ps++ts).map .str))/\Deck H' dk sc (τ+rs.length):=by
 induction f with
 | nil=>
  intro j H τ ps x12 hj D K hk _ _;have nx:=gi (i:=j) (fj (K.at_ _ _ ⟨bw hk0,hkd⟩ hk0));rw[drop_nil hj]at nx;exact CE ([]) H .nil (gn nx) K (by erw [bq];exact hk) D
 | cons q f ih=>
  rename_i u x rs ys
  intro j H τ ps x12 hj D K hk hl hτ;rw[aI]at hl hτ;obtain⟨hu,hj'⟩:=uZ hj;have nx:=gi (i:=j) (fj (K.at_ _ _ ⟨bw hk0,hkd⟩ hk0));rw[hu]at nx;refine aL q λki xq2 p=>?_;subst xq2;refine aL (p.it) λv hv r=>?_;have nk:kd≠dk:=Ne.symm (aC (al hd h1));have ns:kd≠sc:=Ne.symm (aC (al hs h1));have hv':=K.at_ _ _ ⟨bw hv,Ne.symm (aC (al hn p.lo))⟩ hv;have K0:Keep all H (H++ [.list (GZ.map .str)]):=Keep.app;have nn:H.length≠dk:=Ne.symm (aC (al hd K.len));refine gS (yI (d:=197) (D.keep K0 trivial trivial) (by exact(bE ai (aG 100000) [(aJ ai cN,aG 90000)] aR hτ)) (aU (c:= .list (GZ.map .str))) nn (by decide) (by decide)) λi w aq hi e D1 K1=>?_;refine aL (cM.mp (bM hi)) λs hs' xq3=>?_;subst xq3;have ls:=(xw s hs').2.2;have lp:=p.len;have g1:=K1.at_ _ _ nk (K0.at_ _ _ trivial hk);have K2:Keep (·≠kd) aq (aq.set kd (.list ((ps++ [tx true x++s]).map .str))):=Keep.set λo=>o rfl;refine ua (ih (j+1) (x12:=some (.ref ki)) hj' (D1.keep K2 nk.symm ns.symm) (((K.trans (K0.weak λ_ _=>trivial)).trans (K1.weak λk o=>o.2)).trans (K2.weak λk o=>aC (al o.1 h1))) (cO (bw g1)) (by erw [af];show ps.length+1+_<=_;exact(bE (aJ bf ay) (aG 1000) [(aJ ai cN,aG 1000)] aR hl)) (by exact(bE (aJ bf ay) (aG 90000) [(aJ ai cN,aG 90000)] aR hτ))) λts H' f' e2 K3 h2 D2=>?_;rw[aA]at h2;refine CE ((tx true x++s)::ts) H' (.cons ⟨p.g,lp,s,hs',rfl⟩ f') (iZ nx rfl (bS (dC (ah rfl) az (pL (w:=true) (j:=1) hv' rfl)) (bg (bV rfl (ak (fK (gR (gR (ak az (ak az ao)))) (aM (ab rfl))) ao)) e) (d8 (by exact(bE (aJ ai ay) cX [(ay,aG 4),(ai,aG 49)] aR ls lp)))) g1 (aM (by erw [aK];exact(bE ai cX [(aJ ai cN,aG 1000)] aR hl))) ?_) K3 h2 (by erw [aI,(show τ+(rs.length+1)=τ+1+rs.length from by exact(bI (bE (aJ ai cN) (aJ bf ay) [] aR) (bE (aJ bf ay) (aJ ai cN) [] aR)))];exact D2)
  erw [(show(ps.map AV.str)++ [.str (tx true x++s)]=(ps++ [tx true x++s]).map .str from by erw [bp];rfl)]
  exact e2
set_option tactic.hygienic true in
theorem sL{a:E}{Q:AV->D->Prop}(hk0:Hk bT kc (.list us))(h1:bT.length<=kd){ys:List D}(f:F2 Q rs ys)(hq:∀{u x H},Q u x->Keep (· <bT.length) bT H->∃H',Re 199 (Di v0 dk tb kp x4 x5 x6 x7 x8 x9 x10 x11 (some u)) H a (rk x,H')/\Keep all H H'):∀(j:Nat) {H:Hp} {ps:List AV} {x12:Option AV},us.drop j=rs->Keep (· <bT.length) bT H->Hk H kd (.list ps)->ps.length+rs.length<=1000->
  ∃(H':Hp),lM 199 (Di v0 dk tb kp x4 x5 x6 x7 x8 x9 x10 x11 x12) H (.cell kc j) (.one 12) none a kd H'/\Keep (· <bT.length) bT H'/\Hk H' kd (.list (ps++ys.map rk)):=by
 induction f with
 | nil=>
  intro j H ps x12 hj K hk _;have nx:=gi (i:=j) (fj (K.at_ _ _ (bw hk0) hk0));rw[drop_nil hj]at nx;exact eF H (gn nx) K (by erw [mS,bq];exact hk)
 | cons q f ih=>
  rename_i u x rs ys
  intro j H ps x12 hj K hk hl;rw[aI]at hl;obtain⟨hu,hj'⟩:=uZ hj;have nx:=gi (i:=j) (fj (K.at_ _ _ (bw hk0) hk0));rw[hu]at nx;refine aL (hq q K) λaq e K1=>?_;have g1:=K1.at_ _ _ trivial hk;have K2:Keep (·≠kd) aq (aq.set kd (.list (ps++ [rk x]))):=Keep.set λo=>o rfl;refine dq (ih (j+1) (x12:=some u) hj' ((K.trans (K1.weak λ_ _=>trivial)).trans (K2.weak λk o=>aC (al o h1))) (cO (bw g1)) (by erw [af];show ps.length+1+_<=_;exact(bE (aJ bf ay) (aG 1000) [(aJ ai cN,aG 1000)] aR hl))) λH' e2 K3 h2=>?_;rw[aA]at h2;exact eF H' (iZ nx rfl e g1 (aM (by exact(bE ai cX [(aJ ai cN,aG 1000)] aR hl))) e2) K3 h2
end
end
section
mutual
variable{α β:Type}
variable{n kp t:Nat}{H H':Hp}{dk sc tb rw dc τ:Nat}{es:List (List Nat×AV)}{x:D}{ws us:List AV}{xs:List D}{x4 x5 x6 x7 x8 x9:Option AV}{l:List Int}
def F2.imp{Q R:α->β->Prop}{as:List α}{bs:List β}(h:F2 Q as bs)(g:∀a b,Q a b->R a b):F2 R as bs:=by
 induction h with
 | nil=>exact .nil
 | cons q zz ih=>exact .cons (g _ _ q) ih
def jE.f2{ok:Nat->Prop}:∀{us:List AV} {xs:List D},jE ok H us xs->F2 (gI ok H) us xs
 | [],[],_=> .nil
 | [],_::_,r=>nomatch r.1
 | _::_,[],r=>nomatch r.1
 | u::us,x::xs,r=>by
  refine aL (r.2 0 u rfl) λy e q=>?_
  (replace e:=ae e;subst e)
  exact .cons q (jE.f2 ⟨qZ r.1,λi v h=>r.2 (i+1) v h⟩)
def Bf{m:Nat}:∀{xs:List D},(∀x∈xs,Pd (rk x) m)->yS (xs.map rk) m
 | [],_=> .nil
 | x::xs,h=> .cons (h x bj) (Bf λy m=>h y (bN _ m))
def F2.mem{Q:α->β->Prop}{as:List α}{bs:List β}(h:F2 Q as bs):∀b∈bs,∃a∈as,Q a b:=by
 induction h with
 | nil=>exact λzz m=>nomatch m
 | cons q zz ih=>
  intro b m;cases m with
  | head=>exact bH _ bj q
  | tail zz m=>refine aL (ih b m) λa ha q=>?_;exact bH a (bN _ ha) q
def F2.with{Q:α->β->Prop}{P:β->Prop}{as:List α}{bs:List β}(h:F2 Q as bs):(∀b∈bs,P b)->F2 (λa b=>Q a b/\P b) as bs:=by
 induction h with
 | nil=>exact λzz=> .nil
 | cons q zz ih=>exact λg=> .cons ⟨q,g _ bj⟩ (ih λb m=>g b (bN _ m))
noncomputable abbrev rL(l:List Int):AV:= .a (l.map .int)
def HD(p:PL n kp H dk sc tb rw dc τ es t ws)(hw:ws.length<=1000)(hτ:τ<=60000)(ht:t<=8)(hl:l.length<=63):∃ls' H',gH 199 (Di (rL l) dk tb kp x4 x5 x6 x7 x8 x9 none none none) H (Fe.body.drop 4) (.ret (.bool true),ls',H'):=by
 have low:=p.W.low;have nc:H.length≠dk:=Ne.symm (aC low.1);refine Gn (uH (v0:=rL l) (tb:=tb) (x4:=x4) (x5:=x5) (x6:=x6) (x7:=x7) (x8:=x8) (x9:=x9) (x10:=none) (x11:=none) (bT:=H) (kc:=H.length) p.hp p.B.okp.1 p.hw hw (aw _) low.1 low.2.1 (1+min l.length 16 / 8) (H:=H++ [.list []]) (us:= []) (a:=0) (x12:=none) (p.W.hD.keep (ok:=all) Keep.app trivial trivial) Keep.app aU (λzz m=>nomatch m) (by show 0+_<=_;exact(bO.mp (eB [] [_,_] 0 (.ic (aJ (aG 0) (aJ (aG 1) ai))) (.ic (aG 1000)) (.hn (fZ 8 ai) ay (.hn ay (aG 16) .ho)) aR (ue _ _) (cE _ _)))) (by exact(bO.mp (eB [] [_,_,_] 0 (.ic (aJ ai (aJ (aG 1) ay))) (.ic (aG 90000)) (.hn ai (aG 60000) (.hn (fZ 8 ay) bF (.hn bF (aG 16) .ho))) aR hτ (ue _ _) (cE _ _))))) λus H1 e1 D1 K1 hk1 hu1 hl1=>?_;have c1:=kY (d:=199) (ls:=Di (rL l) dk tb kp x4 x5 x6 x7 x8 x9 none none none) (pt:= .one 12) rfl (Jf (H:=H) (sc:=l) 1 0 rfl (by exact(cz ai cX [(ai,aG 63)] aR hl)) 8 16 (by decide) (by decide)) (JE (by exact(bO.mp (eB [] [_,_] 3 (.ic (eS (aJ (aG 1) ai))) (.ic (aG 8)) (.hn (fZ 8 ai) ay (.hn ay (aG 16) .ho)) aR (ue _ _) (cE _ _))))) e1;have p1:PL n kp H1 dk sc tb rw dc _ es t ws:=p.draw (K1.below λk h o=>⟨h,o⟩) D1;have l1:us.length<=3:=by erw [hl1];show 0+_<=_;exact(bO.mp (eB [] [_,_] 7 (.ic (aJ (aG 0) (aJ (aG 1) ai))) (.ic (aG 3)) (.hn (fZ 8 ai) ay (.hn ay (aG 16) .ho)) aR (ue _ _) (cE _ _)))
 obtain⟨xs,f1⟩:=F2.ex (Q:=Iw n kp H1 es t) λu m=>by refine gy (p1.hi u (hu1 u m)) λki x e q=>?_;exact kS x ki e q
 have low1:=p1.W.low;have dkn:dk<n:=p.B.dk;have kcn:H.length<H1.length:=bw hk1;refine ua (D5 (v0:=rL l) (tb:=tb) (x4:=x4) (x5:=x5) (x6:=x6) (x7:=x7) (x8:=x8) (x9:=x9) (x10:=some (.ref H.length)) (x11:=none) (kd:=H1.length) dkn hk1 nc (aw _) low1.1 low1.2.1 f1 0 (H:=H1++ [.list []]) (ps:= []) (x12:=none) rfl (D1.keep (ok:=all) Keep.app trivial trivial) Keep.app aU (by show 0+_<=_;exact(cz (aJ (aG 0) ai) (aG 1000) [(ai,aG 3)] aR l1)) (by exact(gj (aJ (aJ ai (aJ (aG 1) ay)) bF) (aG 90000) [(bF,aG 3),((aJ (aG 0) (aJ (aG 1) ay)),bF),(bF,aG 3),(ai,aG 60000)] aR l1 (lq hl1) l1 hτ))) λts H2 f2 e2 K2 hk2 D2=>?_;have c2:=kY (d:=199) (ls:=Di (rL l) dk tb kp x4 x5 x6 x7 x8 x9 (some (.ref H.length)) none none) (pt:= .one 12) (a:= .v 10) rfl (ah rfl) (jt hk1) e2;have p2:PL n kp H2 dk sc tb rw dc _ es t ws:=p1.draw (K2.below λk h o=>⟨h,o⟩) D2;rw[fM]at hk2;have sq:=GU f2;have lx:xs.length<=3:=by erw [<- f1.len];exact l1
 have lt:ts.length<=3:=by erw [<- f2.len];exact lx
 refine jT (c3 (d:=198) (H:=H2)) λrw2 dc2 H3 e3 T3 n1 n2 K3=>?_;have p3:=p2.keep K3 λzz h=>h;have hk3:=K3.at_ _ _ (bw hk2) hk2;have fl:ts.flatten.length<=180:=by have:=sq.2;lia
 have j:=oU (d:=199) (ls:=Di (rL l) dk tb kp x4 x5 x6 x7 (some (.ref H2.length)) x9 (some (.ref H.length)) (some (.ref H1.length)) none) (a:= .v 11) (ah rfl) hk3 (by exact(cz ai cX [(ai,aG 3)] aR lt)) (by exact(cz ai cX [(ai,aG 180)] aR fl));have tx1:Re 199 (Di (rL l) dk tb kp x4 x5 x6 x7 (some (.ref H2.length)) x9 (some (.ref H.length)) (some (.ref H1.length)) none) H3 (.o .add (.o .add (.lit (.str [32])) (.meth (.lit (.str [])) 6 [(.v 11)])) (.lit (.str [59,41]))) (.str ([32]++(ts.flatten++ [59,41])),H3):=by
  erw [<- aA]
  exact bS (bS az j (d8 (by show 1+_<=_;exact(cz (aJ (aG 1) ai) cX [(ai,aG 180)] aR fl)))) az (d8 (by erw [af];show 1+_+2<=_;exact(cz (aJ (aJ (aG 1) ai) (aG 2)) cX [(ai,aG 180)] aR fl)))
 refine w1 (RK (d:=175) (ys:=xs) T3 (t:= [32]++(ts.flatten++ [59,41])) (by erw [af,af];show 1+(_+2)<=_;exact(cz (aJ (aG 1) (aJ ai (aG 2))) cX [(ai,aG 180)] aR fl)) (sq.1.pass (vP rfl (by decide) pE)) (by exact(cz ai cX [(ai,aG 3)] aR lx))) λkl ws2 H4 es4 e4 T4 hk4 r4 K4=>?_;have K24:Keep (· <H2.length) H2 H4:=K3.trans (K4.weak λi o=>(eC (al o K3.len) (aC (al o n1)) (aC (al o n2))));have p4:=p2.keep K24 λzz h=>h;have good:∀x∈xs,x.good/\sz x<=147/\dp x<=16:=λx m=>by
  obtain⟨u,_,ki,_,q⟩:=f1.mem x m
  have h1:=q.len
  have h2:=q.dp
  have h3:=z4 x q.g
  exact eC q.g (by exact(bE ai (aG 147) [(bf,fZ 3 ay),(ay,aG 49),(ay,aG 49),(ay,aG 49)] aR h3.2.2 h1 h1 h1)) (by exact(bE ai (aG 16) [(ai,fZ 2 ay),(ay,aG 8),(ay,aG 8)] aR h2 ht ht))
 have f4:=(r4.f2).with good;refine dq (sL (v0:=rL l) (dk:=dk) (tb:=tb) (kp:=kp) (x4:=x4) (x5:=x5) (x6:=x6) (x7:=x7) (x8:=some (.ref H2.length)) (x9:=some (.ref kl)) (x10:=some (.ref H.length)) (x11:=some (.ref H1.length)) (a:= .call 125 [(.v 12),(.v 8)]) (kd:=H4.length) hk4 (aw _) f4 (fun{u x H} q K=>by
  refine aL ((vJ T4 x q.2.1 (by exact(cz ai (aG 900000) [(ai,aG 147)] aR q.2.2.1))).1 (e:=199) (by exact(cz (aJ ai (aG 2)) (aG 199) [(ai,aG 147)] aR q.2.2.1)) q.1 (K.below λi h zz=>h)) λH' e K'=>?_
  exact bH H' (bg (bV rfl (bV rfl ao)) e) K') 0 (H:=H4++ [.list []]) (ps:= []) (x12:=none) rfl Keep.app aU (by erw [r4.1];show 0+_<=_;exact(cz (aJ (aG 0) ai) (aG 1000) [(ai,aG 3)] aR lx))) λH5 e5 K5 hk5=>?_
 rw[fM]at hk5;have c5:=kY (d:=199) (ls:=Di (rL l) dk tb kp x4 x5 x6 x7 (some (.ref H2.length)) (some (.ref kl)) (some (.ref H.length)) (some (.ref H1.length)) none) (pt:= .one 12) (a:= .v 9) rfl (ah rfl) (jt hk4) e5;have p5:=p4.keep K5 λzz h=>h;have K15:Keep (λk=>k<H1.length/\k≠dk) H1 H5:=K2.trans ((K24.weak λi o=>al o.1 K2.len).trans (K5.weak λi o=>al o.1 (aj K2.len K24.len)));have hh:y0 n kp H1 (λk=>k<H1.length/\k≠dk):=λk c e o zz=>⟨bw e,p1.hasd k c e o⟩;have f5:F2 (λu x=>Iw n kp H5 es t u x/\x.good/\sz x<=147/\dp x<=16) us xs:=(f1.imp λu x q=>by refine aL q λki e q=>?_;exact bH ki e (q.move K15 hh .refl)).with good;refine dq (sL (v0:=rL l) (dk:=dk) (tb:=tb) (kp:=kp) (x4:=x4) (x5:=x5) (x6:=x6) (x7:=x7) (x8:=some (.ref H2.length)) (x9:=some (.ref kl)) (x10:=some (.ref H.length)) (x11:=some (.ref H1.length)) (a:= .call 125 [(.idx (.v 12) (.lit (.int 0))),(.v 2)]) (kd:=H5.length) (K15.at_ _ _ ⟨kcn,nc⟩ hk1) (aw _) f5 (fun{u x H} q K=>by
  refine vp q λxq1 g hz zz=>?_;refine aL xq1 λki xq2 q2=>?_;subst xq2
  refine aL (q2.it) λv hv r=>?_
  refine aL ((vJ (n:=n) p5.W.hT x g (by exact(cz ai (aG 900000) [(ai,aG 147)] aR hz))).1 (e:=199) (by exact(cz (aJ ai (aG 2)) (aG 199) [(ai,aG 147)] aR hz)) (r.mono (λk c o e=>⟨o.1,e⟩) x v) (K.below λi h zz=>h)) λH' e K'=>?_
  exact bH H' (bg (ak (dC (ah rfl) az (fi (i:=0) (K.at_ _ _ (bw hv) hv) fN rfl)) (bV rfl ao)) e) K') 0 (H:=H5++ [.list []]) (ps:= []) (x12:=none) rfl Keep.app aU (by show 0+_<=_;exact(cz (aJ (aG 0) ai) (aG 1000) [(ai,aG 3)] aR l1))) λH6 e6 K6 hk6=>?_
 rw[fM]at hk6;have c6:=kY (d:=199) (ls:=Di (rL l) dk tb kp x4 x5 x6 x7 (some (.ref H2.length)) (some (.ref kl)) (some (.ref H.length)) (some (.ref H1.length)) none) (pt:= .one 12) (a:= .v 10) rfl (ah rfl) (jt (K15.at_ _ _ ⟨kcn,nc⟩ hk1)) e6;have eq:iI H6 .eq (.ref H4.length) (.ref H5.length)=some true:=Fi (K6.at_ _ _ (bw hk5) hk5) hk6 (Bf (m:=51) λx m=>(DX x (good x m).1).1.le (by have:=(good x m).2.2;exact(cz (aJ (fZ 3 ai) (aG 3)) (aG 51) [(ai,aG 16),(ai,aG 16),(ai,aG 16)] aR this this this))) (by decide);exact ug _ H6 (cK c1 rfl (cK c2 rfl (cK (gG ao rfl e3) rfl (aB (iT (bg (ak tx1 (ak (ah rfl) ao)) e4) (eh rfl)) (eP (kH (dw c5 c6 eq)))))))
end
end
section
mutual
variable{c:Cell}
variable{n kp t:Nat}{H H':Hp}{dk sc tb rw dc τ k1 ki:Nat}{es es':List (List Nat×AV)}{x:D}{ws:List AV}{l:List Int}{v:AV}
def D7(r:gI (Nw n H es) H v x):gI (Pn n H.length (H++ [c]) es) (H++ [c]) v x:=
 r.mono (λk c' o e=>by
  have e':Hk (H++ [c]) k c':=bC e;exact⟨⟨⟨λc2 g=>by cases e'.symm.trans g;exact o.1 _ e,λi s g=>by cases e'.symm.trans g;exact o.2 i s e⟩,aC (bw e)⟩,e'⟩) x v
def sW(hk:Hk H ki (uf v x))(r:gI (Nw n H es) H v x)(hn:n<=ki)(g:x.good)(ha:x.atom=true):PIt n H.length (H++ [c]) es 0 ki x:=
 ⟨⟨v,bC hk,D7 r⟩,aC (bw hk),hn,g,aj (tR x g ha).2.1 (by decide),by erw [BH x ha];exact aw _⟩
def Cw{q:Prop}(hl:l.length<=63)(kk:∀{n kp dk sc tb rw dc τ es t ws x4 x5 x6 x7 x8 x9 H},PL n kp H dk sc tb rw dc τ es t ws->ws.length<=1000->τ<=60000->t<=8->(∀{o:Fl×Ls×Hp},gH 199 (Di (rL l) dk tb kp x4 x5 x6 x7 x8 x9 none none none) H (Fe.body.drop 4) o->gH 199 [some (rL l),none,none,none,none,none,none,none,none,none,none,none,none,none] [] Fe.body o)->q):q:=by
 refine jT (Rz (d:=198) (H:= []) (sc:=l) (by exact(cz ai cX [(ai,aG 63)] aR hl))) λdk sc H1 e1 D1 zz zy zx=>?_;refine jT (c3 (d:=198) (H:=H1)) λrw dc H2 e2 T2 n1 n2 K2=>?_;obtain⟨xq1,zs,hsc⟩:=D1.cells;refine t9 xq1 λz1 z2 z3 hdk=>?_;have W2:LW H2 dk sc H1.length rw dc 0 []:=⟨D1.keep K2 (bw hdk) (bw hsc),T2,aC (al (bw hdk) n1),aC (al (bw hsc) n1)⟩;have low:=W2.low;refine w3 (L7 (d:=195) W2 (by exact eE ..)) λk1 x1 H3 es1 e3 M1 a1=>?_;refine w3 (L7 (d:=195) M1.W (by exact eE ..)) λk2 x2 H4 es2 e4 M2 a2=>?_;refine dq (M1.it) λv1 i1 o1 r1=>?_;refine dq (M2.it) λv2 i2 o2 r2=>?_;have hh:iD H2.length H3 (Hj dk rw dc):=M1.W.has low.1 low.2.2.2.1 low.2.2.2.2;have i1':=M2.K.at_ _ _ (hh _ _ i1 (.inl o1)) i1;have r1':=r1.move M2.K hh M2.sb (aw _);have r2':gI (Nw H2.length H4 es2) H4 v2 x2:=r2.move (ok:=all) .refl iD.lt .refl M1.K.len;have K5:Keep all H4 (H4++ [uf (.obj 0) .empty]):=Keep.app;have n4:H2.length<=H4.length:=aj M1.K.len M2.K.len;have W5:=M2.W.more K5;have B:LBase H2.length (H4++ [uf (.obj 0) .empty]).length dk sc rw dc:=⟨low.1,low.2.1,low.2.2.2.1,low.2.2.2.2,aj n4 K5.len⟩;have p0:PL H2.length (H4++ [uf (.obj 0) .empty]).length (H4++ [uf (.obj 0) .empty]++ [.list [.ref k1, .ref k2, .ref H4.length]]) dk sc H1.length rw dc (0+7+7) es2 0 [.ref k1, .ref k2, .ref H4.length]:=
  ⟨W5.more Keep.app,B,aU,λw m=>by
   cases m with
   | head=>exact kS k1 x1 rfl (sW (bC i1') (r1'.move K5 iD.lt .refl (aw _)) o1 M1.g a1)
   | tail zz m=>cases m with
    | head=>exact kS k2 x2 rfl (sW (bC i2) (r2'.move K5 iD.lt .refl (aw _)) (aj M1.K.len o2) M2.g a2)
    | tail zz m=>cases m with
     | head=>exact kS H4.length .empty rfl (sW (v:= .obj 0) aU rfl n4 trivial rfl)
     | tail zz m=>exact(nomatch m),k6 _⟩
 have hN:2+min l.length 20 / 4<8:=by exact(bO.mp (eB [] [_,_] 3 (.ic (eS (aJ (aG 2) ai))) (.ic (aG 8)) (.hn (fZ 4 ai) ay (.hn ay (aG 20) .ho)) aR (ue _ _) (cE _ _)))
 refine w3 (ux (v0:=rL l) (a:=0) (x4:=none) (2+min l.length 20 / 4) p0 (by show 3+_<=_;exact(cz (aJ (aG 3) (aJ (aG 2) ai)) (aG 1000) [((eS (aJ (aG 2) ai)),aG 8)] aR hN)) (by exact(bO.mp (eB [] [_,_] 0 (.ic (aJ (aJ (aJ (aG 0) (aG 7)) (aG 7)) (fZ 10 (aJ (aG 2) ai)))) (.ic (aG 60000)) (.hn (eS (aJ (aG 2) ai)) (aG 8) (.hn (eS (aJ (aG 2) ai)) (aG 8) (.hn (fZ 4 ai) ay (.hn (fZ 4 ai) ay (.hn ay (aG 20) (.hn ay (aG 20) .ho)))))) aR hN hN (ue _ _) (ue _ _) (cE _ _) (cE _ _))))) λws es7 x4 H7 e7 p7 l7=>?_;obtain⟨wa,ha⟩:∃w,ws[0]? =some w:=⟨_,bl p7.hw⟩;obtain⟨wi,wb,hb⟩:∃us w,ws=us++ [w]:=by
  have hne:ws≠ []:=λe=>by have:=p7.hw;rw[e]at this;exact nomatch this
  exact ug ws.dropLast (ws.getLast hne) ((List.dropLast_concat_getLast hne).symm)
 refine gy (p7.hi wa (bM ha)) λka xa xq2 qa=>?_;subst xq2;refine gy (p7.hi wb (by erw [hb];exact bB _ bj)) λkb xb xq3 qb=>?_;subst xq3;have K8:Keep all H7 (H7++ [.list [.ref ka, .ref kb]]):=Keep.app;have p8:=p7.more K8;have qa8:=qa.move K8 (λzz zy zx zw zv=>trivial) .refl;have qb8:=qb.move K8 (λzz zy zx zw zv=>trivial) .refl;refine aL (qa8.it) λva ca ra=>?_;have da:=qa8.dp;have db:=qb8.dp;refine B2 (check (v0:=rL l) (x4:=x4) (x8:=none) (x9:=none) p8 ra qa8.g qa8.len (by exact(bE ai (aG 20) [(ai,(fZ 2 (aJ (aG 0) (aJ (aG 2) ay)))),((eS (aJ (aG 2) ay)),aG 8),((eS (aJ (aG 2) ay)),aG 8)] aR da hN hN))) λx8 x9 H9 e9 p9 K9=>?_;have qb9:=qb8.move K9 (λk c e zz zy=>bw e) .refl;refine aL (qb9.it) λvb cb rb=>?_;refine B2 (check (v0:=rL l) (x4:=x4) (x8:=x8) (x9:=x9) p9 rb qb9.g qb9.len (by exact(bE ai (aG 20) [(ai,(fZ 2 (aJ (aG 0) (aJ (aG 2) ay)))),((eS (aJ (aG 2) ay)),aG 8),((eS (aJ (aG 2) ay)),aG 8)] aR db hN hN))) λx8' x9' H10 e10 p10 K10=>?_;have hz8:Hk (H7++ [Cell.list [AV.ref ka,AV.ref kb]]) (H7.length) (.list [.ref ka, .ref kb]):=aU;have hz9:=K9.at_ _ _ (bw hz8) hz8;have hz10:=K10.at_ _ _ (bw hz9) hz9;have s1:Rs 199 [some (rL l),none,none,none,none,none,none,none,none,none,none,none,none,none] [] (.aS (.U [(.v 1),(.v 2)]) (.U [(.call 124 [(.v 0),(.lit (.int 30))]),(.new 2 [])])) (.next,[some (rL l),some (.ref dk),some (.ref H1.length),none,none,none,none,none,none,none,none,none,none,none],H2):=iT (gQ (ak (bg (bV rfl (gR ao)) e1) (ak (gG ao rfl e2) ao)) (aM (ab rfl))) (mm (di (eh rfl) (di (eh rfl) jB)));have s2:=iT (d:=199) (ls:= [some (rL l),some (.ref dk),some (.ref H1.length),none,none,none,none,none,none,none,none,none,none,none]) (t:= .v 3) (hY (a:= .call 127 [(.v 1),(.v 2)]) (b:= .call 127 [(.v 1),(.v 2)]) (c:= .list [(.lit (.obj 0)),(.lit (.str [40,41])),(.lit (.str [40,41]))]) (bg (bV rfl (bV rfl ao)) e3) (bg (bV rfl (bV rfl ao)) e4) (hY az az az)) (eh rfl);have s3:=mL (Jf (H:=H4++ [uf (.obj 0) .empty]++ [.list [.ref k1, .ref k2, .ref H4.length]]) (ls:=PJ (rL l) dk H1.length (H4++ [uf (.obj 0) .empty]).length none) (sc:=l) 2 0 rfl (by exact(cz ai cX [(ai,aG 63)] aR hl)) 4 20 (by decide) (by decide)) (JE hN) e7;have s4:Rs 199 (PJ (rL l) dk H1.length (H4++ [uf (.obj 0) .empty]).length x4) H7 (.for (.many [5,6,7]) (.list [(.idx (.v 3) (.lit (.int 0))),(.idx (.v 3) (.neg (.lit (.int 1))))]) S5) (.next,Qq (rL l) dk H1.length (H4++ [uf (.obj 0) .empty]).length x4 (some vb) (some (.str (tx true xb))) (some (.str (tx false xb))) x8' x9',H10):=
  mL (fK (ak (dC (ah rfl) az (fi (i:=0) p7.hp (by exact(cz ai cX [(ai,aG 1000)] aR l7)) ha)) (ak (dC (ah rfl) (pZ az) (pQ (by erw [<- hb];exact p7.hp) (by have:=congrArg je hb;rw[af]at this;have h1:[AV.ref kb].length=1:=rfl;exact(bE bf cX [((aJ ai (eS (aG 0))),ay),(ay,aG 1000)] aR (lq this) l7)))) ao)) (aM (ab rfl))) (jt hz8)
   (fq (gi (fj hz8)) (bo (fj ca) rfl) e9 (fq (gi (fj hz9)) (bo (fj cb) rfl) e10 (iH (gi (fj hz10)))));exact kk p10 l7 (by exact(bO.mp (eB [] [_,_] 0 (.ic (aJ (aJ (aJ (aG 0) (aG 7)) (aG 7)) (fZ 10 (aJ (aG 2) ai)))) (.ic (aG 60000)) (.hn (eS (aJ (aG 2) ai)) (aG 8) (.hn (eS (aJ (aG 2) ai)) (aG 8) (.hn (fZ 4 ai) ay (.hn (fZ 4 ai) ay (.hn ay (aG 20) (.hn ay (aG 20) .ho)))))) aR hN hN (ue _ _) (ue _ _) (cE _ _) (cE _ _)))) (by exact(cz (aJ (aG 0) (aJ (aG 2) ai)) (aG 8) [((eS (aJ (aG 2) ai)),aG 8)] aR hN)) λh=>aB s1 (aB s2 (aB s3 (aB s4 h)))
def EG(hl:l.length<=63):∃H',aP 200 [] 130 [rL l] (.bool true,H'):=by
 refine Cw hl fun{n kp dk sc tb rw dc τ es t ws x4 x5 x6 x7 x8 x9 H} p h1 h2 h3 go=>?_;refine y4 (HD (x4:=x4) (x5:=x5) (x6:=x6) (x7:=x7) (x8:=x8) (x9:=x9) p h1 h2 h3 hl) λls' H' e=>?_;exact⟨H',bx (F:=Fe) rfl rfl rfl (go e)⟩
end
end
end Mine.Internal
end
section
open PySem PySem.Calls PyProof.Rows PySem.W
namespace Mine.Internal
mutual
abbrev xH(prog:Program)(w:World)(K:Frag)(h:Heap)(p:Program)(loose:List Str)(mg mb:Str->Option Value):Wd:={prog,w,K,base:=h,p,loose,mg,mb,fa:=CM K,ca:=yH K,oa:=Cq K,glob:=yk,nm:=Dh,P:=P}
end
section
mutual
variable{u:Value}{a C:Addr}{B:BgT}{ρ:List Addr}{x:Str}{c:Nat}{f:AV->Value->Bool}{W:Wd}{vs:List AV}
variable{prog:Program}{w:World}{K:Frag}{h:Heap}{p:Program}{loose:List Str}{mg mb:Str->Option Value}
def jL{v:Value}(e:HV K x v=true):Gl (xH prog w K h p loose mg mb) x v:=by
 cases jG.mp e with
 | inl e=>exact .own (beq_iff_eq.mp e)
 | inr e=>
  have e1:=ag.mp e;have e2:=ag.mp e1.1;exact .builtin (beq_iff_eq.mp e2.1) (beq_iff_eq.mp e2.2) (bne_iff_ne.mp e1.2)
def LN:(CM K).length=131:=by unfold CM;erw [aK];rfl
def FD:(yH K).length=25:=by unfold yH;erw [aK];rfl
def uY{i:Nat}(hi:cf i 131=true):(CM K)[i]? =some (mH K i):=by
 unfold mH
 erw [fc,(bl (by erw [LN];exact cL.mp hi))];rfl
def mj(e:(xH prog w K h p loose mg mb).cat c=some C):c∈kR/\jO K c=C:=by
 have t:∀c,c<25->(dm 11 c && dm c 15)=false->c∈kR:=by decide
 have e':cond (dm 11 c && dm c 15) none (yH K)[c]? =some C:=e;cases q:(dm 11 c && dm c 15)with
 | true=>rw[q]at e';exact nomatch e'
 | false=>
  rw[q]at e';have e2:(yH K)[c]? =some C:=e';have l:=(aT.mp e2).1;rw[FD]at l;refine⟨t c l q,?_⟩;unfold jO
  erw [fc,e2];rfl
def FA(e:c∈kR):(xH prog w K h p loose mg mb).cat c=some (jO K c):=by
 have t:∀c∈kR,c<25/\(dm 11 c && dm c 15)=false:=by decide
 have q:=t c e;show cond (dm 11 c && dm c 15) none (yH K)[c]? =_
 erw [q.2]
 show(yH K)[c]? =_;unfold jO
 erw [fc,(bl (by erw [FD];exact q.1))];rfl
def pf(h:B4 u=some a):u= .ref a:=by cases u using gO with | ref b=>exact congrArg _ (ae h) | _=>exact dz h
def Dq{a:String}(h:Qa u=some a):u= .type a:=by cases u using gO with | type b=>exact congrArg _ (ae h) | _=>exact dz h
def Ds{a:Bool}(h:Je u=some a):u= .bool a:=by cases u using gO with | bool b=>exact congrArg _ (ae h) | _=>exact dz h
def Gw{a:Int}(h:Nj u=some a):∃t,u= .int a t:=by cases u using gO with | int b t=>exact⟨t,congrArg (Value.int · t) (ae h)⟩ | _=>exact dz h
def Gu{a:Str}(h:Ni u=some a):∃t,u= .str a t:=by cases u using gO with | str b t=>exact⟨t,congrArg (AF · t) (ae h)⟩ | _=>exact dz h
def w5(h:Dr u=true):u= .none:=by cases u using gO with | none=>rfl | _=>exact ll h
def C0{u:Data}(h:Fm u=true):u= .plain:=by cases u using Data.casesOn with | plain=>rfl | _=>exact ll h
def Fp{u:Data}{a:Array DictEntry×Nat}(h:JS u=some a):u= .dict a.1 a.2:=by cases u using Data.casesOn with | dict b t=>exact ae h ▸rfl | _=>exact dz h
def BO{u:Data}{a:Array Value×Nat}(h:L4 u=some a):u= .seq a.1 a.2:=by cases u using Data.casesOn with | seq b t=>exact ae h ▸rfl | _=>exact dz h
def Fo{u:Data}{a:FuncData}(h:JR u=some a):u= .func a:=by cases u using Data.casesOn with | func b=>exact congrArg _ (ae h) | _=>exact dz h
def Fd{u:FuncBody}{a:List Stmt}(h:JK u=some a):u= .stmts a:=by cases u using FuncBody.casesOn with | stmts b=>exact congrArg _ (ae h) | _=>exact dz h
def tr(e:uS K C a=true)(X:K.In h):∃dx es n,h.get? a=some (instObj C dx)/\h.get? dx=some (dictOf es n):=by
 obtain⟨r,e⟩:=jP.mp e;refine cJ e λo q1 e=>cJ e λdx q2 e=>cJ (hO e).2 λp q3 e'=>?_;have a1:=ag.mp (hO e).1;have a2:=ag.mp a1.2;have b1:=ag.mp (hO e').1;have b2:=ag.mp b1.2;refine Ac dx r.1.toList r.2 ((X _ _ q1).trans (congrArg some ?_)) ((X _ _ q3).trans (congrArg some ?_))
 ·show Obj.mk o.cls o.dict o.data o.slots=_
  erw [pf (beq_iff_eq.mp a1.1),q2,C0 a2.1,beq_iff_eq.mp a2.2];rfl
 ·show Obj.mk p.cls p.dict p.data p.slots=_
  erw [Dq (beq_iff_eq.mp b1.1),jm.mp b2.1,Fp (hO e').2,beq_iff_eq.mp b2.2];rfl
def FM(hf:∀v u,f v u=true->VR W B ρ v u):∀{us:List Value},FN f vs us=true->VRs W B ρ vs us:=by
 induction vs with
 | nil=>intro us e;cases us using au with | nil=>exact .nil | cons zz zy=>exact ll e
 | cons x r ih=>intro us e;cases us using au with | nil=>exact ll e | cons u s=>exact .cons (hf x u (ag.mp e).1) (ih (ag.mp e).2)
def xn(X:K.In h)(hB:∀a o,h.get? a=some o->B a=some o){t:String}(hf:∀v u,f v u=true->VR W B ρ v u)(e:zB K t (FN f vs) a=true){p:Prop}
  (k:∀o its m,B a=some o->o.cls= .type t->o.data= .seq its m->VRs W B ρ vs its.toList->p):p:=by
 refine aL ((iz _ _).mp e) λs e q=>?_;exact cJ e λo q1 e=>k o s.1 s.2 (hB _ _ (X _ _ q1)) (Dq (beq_iff_eq.mp (hO e).1)) (BO (hO e).2) (FM hf q)
def IP(X:K.In h)(hB:gu (xH prog w K h p loose mg mb) B)(n:Nat):∀(v:AV) (u:Value),PW K (Cq K) n v u=true->VR (xH prog w K h p loose mg mb) B ρ v u:=by
 induction n with
 | zero=>exact λzz zy e=>ll e
 | succ n ih=>
  intro v u e
  cases v using AV.casesOn with
  | none=>erw [w5 e];exact .none
  | bool b=>erw [Ds (beq_iff_eq.mp e)];exact .bool
  | int i=>exact(Gw (beq_iff_eq.mp e)).elim λt q=>q ▸.int
  | str s=>exact(Gu (beq_iff_eq.mp e)).elim λt q=>q ▸.str
  | obj i=>
   refine aL ((iz _ _).mp e) λa q e=>?_
   erw [pf q];exact .obj (beq_iff_eq.mp e)
  | U vs=>
   refine aL ((iz _ _).mp e) λa q e=>?_
   erw [pf q];exact xn X hB ih e λo its m h1 h2 h3 h4=> .U h1 ⟨h2,m,h3⟩ h4
  | a vs=>
   refine aL ((iz _ _).mp e) λa q e=>?_
   erw [pf q];exact xn X hB ih e λo its m h1 h2 h3 h4=> .a h1 ⟨h2,m,h3⟩ h4
  | _=>exact ll e
def Om(X:K.In h){g:Gv}(e:QL K x g=true):MS (xH prog w K h p loose mg mb) x g:=by
 cases g with
 | fn i=>
  have e1:=ag.mp e;have e2:=ag.mp e1.1;exact eF _ (uY e2.1) (jL e2.2) e1.2
 | cls i=>
  have e1:=ag.mp e;have e2:=ag.mp e1.1;exact eF _ (FA (fu.mp e2.1)) (jL e2.2) e1.2
 | bi b=>exact jL e
 | rev=>exact jL e
 | enum=>exact jL e
 | isinst=>exact jL e
 | ty k=>cases k with
  | bool=>exact jL e
  | int=>exact jL e
  | cls c=>exact nomatch e
 | val v=>
  refine aL ((iz _ _).mp e) λu q e'=>?_;exact cJ q λo q1 q2=>(bH u (.own (q1.trans (congrArg some q2))) (λB ρ hB=>IP X hB 6 v u e'))
def Ld:∀(i j:Nat) (x:Str),Dh[i]? =some x->Dh[j]? =some x->i=j:=by
 have nd:Dh.Nodup:=by decide+kernel
 exact λi j x h1 h2=>by
  obtain⟨a1,b1⟩:=aT.mp h1
  obtain⟨a2,b2⟩:=aT.mp h2
  rcases Nat.lt_trichotomy i j with l | l | l
  ·exact absurd (b1.trans b2.symm) (List.pairwise_iff_getElem.mp nd i j a1 a2 l)
  ·exact l
  ·exact absurd (b2.trans b1.symm) (List.pairwise_iff_getElem.mp nd j i a2 a1 l)
def OZ{fd:FuncData}{dfl:List AV}(e:O0 K fd=some dfl):(fd.defaults= .none/\dfl= [])\/∃T oT its n,fd.defaults= .ref T/\K.lookup T=some oT/\oT.data= .seq its n/\oV (Cq K) its.toList=some dfl:=
 nu e (λq e=> .inl ⟨w5 q,(ae e).symm⟩) λzz e=>cJ e λT q1 e=>cJ e λo q2 e=>cJ e λs q3 e=> .inr (QE T o s.1 s.2 (pf q1) q2 (BO q3) e)
abbrev By:S->Bool
 | .fail=>true
 | _=>false
abbrev EP:List S->Bool
 | [s]=>By s
 | _=>false
def z9{s:S}(h:By s=true):s= .fail:=by cases s using S.casesOn with | fail=>rfl | _=>exact ll h
def Cy{s:List S}(h:EP s=true):s= [.fail]:=by
 rcases s with _ | ⟨x,_ | ⟨y,l⟩⟩
 ·exact ll h
 ·erw [z9 h];rfl
 ·exact ll h
def Ot(X:K.In h){f:Nat}{F:Fn}(ha:(CM K)[f]? =some a)(e:yr K a=some F):∃a fd body,(xH prog w K h p loose mg mb).fa[f]? =some a/\FnOk (xH prog w K h p loose mg mb) a F fd body:=
 cJ e λo q1 e=>cJ e λfd q2 e=>cJ e λbody q3 e=>cJ e λdfl q4 e=>nu e (λg e=>by
  have g1:=ag.mp g;have g2:=ag.mp g1.1;have g3:=ag.mp g2.1;have g4:=ag.mp g3.1;have g5:=ag.mp g4.1;have g6:=ag.mp g5.1;have e:=(ae e).symm;subst e;exact Ac a fd body ha (⟨⟨o.cls,o.dict,o.slots,q1.trans (congrArg (λd=>some (Obj.mk o.cls o.dict d o.slots)) (Fo q2))⟩,Fd q3,aj (ab g6.1) (iB (aK _).symm),AN.mp g6.2,beq_iff_eq.mp g5.2,beq_iff_eq.mp g4.2,g3.2,g2.2,g1.2,OZ q4,rfl⟩)) λzz e=>dz e
def Ip{F:Fn}(l:List Fn):∀i j:Nat,pB.contains (i+j)=false->l[j]? =some F->(PN i l)[j]? =some (some F):=by
 induction l with
 | nil=>exact λi j zz h=>nomatch h
 | cons f r ih=>
  intro i j q h
  cases j using bL with
  | zero=>erw [<- ae h];show some (cond (pB.contains i) none (some f))=_;erw [(show pB.contains i=false from q)];rfl
  | succ j=>exact ih (i+1) j ((gq i 1 j).symm ▸(f6 i j 1 ▸q)) h
def Os(X:K.In h)(e:xD K=Al){f:Nat}{F:Fn}(hF:P.fns[f]? =some F):F.body= [.fail]\/∃a fd body,(xH prog w K h p loose mg mb).fa[f]? =some a/\FnOk (xH prog w K h p loose mg mb) a F fd body:=by
 have len:P.fns.length=131:=rfl;have hf:f<131:=by erw [<- len];exact(aT.mp hF).1
 have sk:(pB.all λi=>(P.fns[i]?).any λF=>EP F.body)=true:=rfl;cases q:pB.contains f with
 | true=>
  have:=aS.mp sk f (fu.mp q);rw[hF]at this;exact .inl (Cy this)
 | false=>
  right;have e1:=congrArg (λl=>l[f]?) e;have r:(cR 131)[f]? =some f:=List.getElem?_range hf;have e2:(xD K)[f]? =some (yr K (mH K f)):=by unfold xD;erw [eu,r];show some (cond (pB.contains f) none _)=_;erw [q];rfl
  have e3:Al[f]? =some (some F):=Ip H8 0 f ((jh f).symm ▸q) hF;have e4:yr K (mH K f)=some F:=ae (e2.symm.trans (e1.trans e3));exact Ot X (uY (cL.mpr hf)) e4
set_option tactic.hygienic true in
theorem Pz(X:K.In h)(T:TopRead p loose mg mb h)(e:Qk K=true)(e':xD K=Al):(xH prog w K h p loose mg mb).Ok:=by
 have e1:=ag.mp e;have e2:=ag.mp e1.1;have e3:=ag.mp e2.1;have e4:=ag.mp e3.1;have e5:=ag.mp e4.1;have eo:=ag.mp e5.1;have ei:=ag.mp eo.1;have es:=ag.mp e2.2;have cl:∀c∈kR,wx K c=true:=λc m=>aS.mp e4.2 c m;have two:∀c c',c≠c'->c∈kR->c'∈kR->kin_not K (jO K c) (jO K c')=true:=λc c' n m m'=>by
  have:=aS.mp (aS.mp e3.2 c m) c' m'
  cases jG.mp this with
  | inl q=>exact absurd (aV q) n
  | inr q=>exact q
 have P2:∀{i:Nat} {a:Addr},(Cq K)[i]? =some a->uS K (jO K 0) a=true:=fun{i a} q=>by
  match i,q with
  | 0,q=>cases q;exact ei.1
  | 1,q=>cases q;exact ei.2
  | n+2,q=>exact nomatch q
 have all:∀{c:Nat} {Cc:Cls},c∈kR->P.clss[c]? =some Cc->(Cc.flds.all λf=>match Dh[f]? with | some n=>Ah K (jO K c) n | none=>true)=true/\(Cc.meths.all fun(m,f)=>cf f 131 && (match Dh[m]? with | some n=>Br K (jO K c) n (mH K f) | none=>true))=true/\makesIn K (jO K c)=true/\findIn K (.ref (jO K c)) "__init__"=some (some (.ref (mH K Cc.init)))/\typeIn K (.ref (mH K Cc.init))=some (.type "function")/\cf Cc.init 131=true:=fun{c Cc} m hc=>by
  have q:=(ag.mp (cl c m)).2
  rw[hc]at q
  have q1:=ag.mp q
  have q2:=ag.mp q1.1
  have q3:=ag.mp q2.1
  have q4:=ag.mp q3.1
  have q5:=ag.mp q4.1
  exact QJ q5.1 q5.2 q4.2 (beq_iff_eq.mp q3.2) (beq_iff_eq.mp q2.2) q1.2
 refine⟨⟨X,T⟩,⟨λi a q=>?_,λi j a q q'=>?_⟩,⟨Ld,λm hm=>?_,λc f C n q q1 q2=>?_,λc m f C n q q1 q2=>?_,?_⟩,⟨λc C q=>?_,λc c' C C' n q q'=>?_,λi a c q q'=>?_,beq_iff_eq.mp es.1,beq_iff_eq.mp es.2⟩,λx g q=>Om X (aS.mp e1.2 (x,g) (eT q)),λf F hF=>Os X e' hF,λ_ _ _ _=>trivial,λc Cc C hc q=>?_⟩
 ·refine vo (tr (P2 q) X) λdx es n h1 _=>?_;exact bH _ h1 (by simp)
 ·have ne:=bne_iff_ne.mp eo.2
  match i,j,q,q' with
  | 0,0,_,_=>rfl
  | 1,1,_,_=>rfl
  | 0,1,q,q'=>cases q;exact absurd (ae q').symm ne
  | 1,0,q,q'=>cases q;exact absurd (ae q') ne
  | n+2,_,q,_=>exact nomatch q
  | _,n+2,_,q'=>exact nomatch q'
 ·have t:∀m,m<=10->Dh[m]? =some (Bq m):=by decide+kernel
  exact t m hm
 ·obtain⟨m,xq1⟩:=mj q1;subst xq1;have q3:wQ P c f=true:=q;unfold wQ at q3
  split at q3
  ·rename_i Cc hc
   have:=aS.mp (all m hc).1 f (fu.mp q3);rw[show Dh[f]? =some n from q2]at this;exact this
  ·exact nomatch q3
 ·obtain⟨m',xq2⟩:=mj q1;subst xq2;refine aL (ct.mp q) λCc hc hl=>?_;have:=aS.mp (all m' hc).2.1 (m,f) (eT hl);have g:=ag.mp this;have g2:=g.2;rw[show Dh[m]? =some n from q2]at g2;exact bH _ (uY g.1) g2
 ·obtain⟨o,ho⟩:=jP.mp e5.2;exact⟨o,X _ _ ho⟩
 ·obtain⟨m,xq3⟩:=mj q;subst xq3;exact(ag.mp (cl c m)).1
 ·obtain⟨m,xq4⟩:=mj q;subst xq4;obtain⟨m',xq5⟩:=mj q';subst xq5;exact two c c' n m m'
 ·have q2:P.objs[i]? =some c:=q';have hc:c=0:=by
   match i,q2 with
   | 0,q2=>exact(ae q2).symm
   | 1,q2=>exact(ae q2).symm
   | n+2,q2=>exact nomatch q2
  subst hc;refine vo (tr (P2 q) X) λdx es n h1 h2=>?_;exact yg _ dx es n (FA (by decide)) h1 h2
 ·obtain⟨m,xq6⟩:=mj q;subst xq6;have g:=all m hc;exact .inr ⟨g.2.2.1,_,uY g.2.2.2.2.2,g.2.2.2.1,g.2.2.2.2.1⟩
end
end
section
mutual
variable{W:Wd}{B:BgT}{h:Heap}{us:List Value}
variable{prog:Program}{w:World}{K:Frag}{p:Program}{loose:List Str}{mg mb:Str->Option Value}{s:Shared}{A:Around}
def MO(hB:∀b o,B b=some o->h.get? b=some o):RM W B [] [] [] h:=
 (bH ([]) (⟨hB,λzz m=>(nomatch m),λzz m=>(nomatch m), .nil, .nil⟩) .nil)
def uC{R:WRecords}{cl:Str->Option Addr}{ρ:List Addr}:∀{xs:List WData} {as:List Addr},ReadsAllW R cl h us xs as->(∀x∈xs,∃i,x= .int i)->∃l:List Int,xs=l.map .int/\VRs W B ρ (l.map .int) us:=by
 induction us with
 | nil=>intro xs as r hx;cases r;exact bH ([]) rfl .nil
 | cons u us ih=>
  intro xs as r hx;cases r with
  | cons r rs=>
   obtain⟨i,xq1⟩:=hx _ bj;subst xq1;refine aL (ih rs λx m=>hx x (bN _ m)) λl e q=>?_;cases r
   exact bH (i::l) (by erw [e];rfl) (.cons .int q)
def EH(X:K.In s.heap)(T:TopRead p loose mg mb s.heap)(e:Qk K=true)(e':xD K=Al)(hA:AOk A 200){l:List Int}(hl:l.length<=63)(hv:∀ρ,VRs (xH prog w K s.heap p loose mg mb) s.heap.get? ρ [rL l] us):
  wpAny (model prog w) A (call (.ref (mH K 130)) us) (λv s'=>v= .bool true/\(∀b o,s.heap.get? b=some o->s'.heap.get? b=some o)/\s'.os=s.os/\s'.gens=s.gens) fh s:=by
 have W1:=Pz (prog:=prog) (w:=w) X T e e';obtain⟨H',hr⟩:=EG (l:=l) hl;obtain⟨n,hn⟩:=ML hr;refine aL (((Ny W1 n).call _ _ _ _ _ _ hn).1.op W1.top) λa ha op=>?_;have ea:a=mH K 130:=ae (ha.symm.trans (uY rfl));subst ea;have hB:gu (xH prog w K s.heap p loose mg mb) s.heap.get? :=λzz zy q=>q;refine dN (op A s.heap.get? [] [] s us hA hB (MO λzz zy q=>q) (hv [])) (λu s' xq2=>fy xq2 λB' ρ' g R' rs q=>?_) λzz zy q=>q;exact Ad (nY q) (λb o h=>R'.base (hB.mono g.b) b o h) rs.os rs.gens
end
end
end Mine.Internal
end
section
open PySem PySem.W PyProof.Rows
namespace Mine.Internal
mutual
def z6{xs:List WData}:WShape.hasItems [] xs .int=true->∀x∈xs,∃i,x= .int i:=by
 induction xs with
 | nil=>exact λzz zy m=>nomatch m
 | cons y ys ih=>
  intro h x m;have q:=ag.mp (show(WShape.has [] y .int && WShape.hasItems [] ys .int)=true from h);rcases aQ.mp m with rfl | m
  ·have h:=q.1
   cases x using WData.casesOn with
   | int i=>exact⟨i,rfl⟩
   | _=>exact ll h
  ·exact ih q.2 x m
def Ec{args:List WData}(h:WShape.hasAll [] args [.list .int]=true):∃xs,args= [.list xs]/\∀x∈xs,∃i,x= .int i:=by
 cases args using au with
 | nil=>exact ll h
 | cons d r=>
  cases r using au with
  | cons a b=>exact ll (ag.mp h).2
  | nil=>
   have h:=(ag.mp h).1
   cases d using WData.casesOn with
   | list xs=>exact bH xs rfl (z6 ((jG.mp h).elim id ll))
   | _=>exact ll h
set_option backward.match.sparseCases true in
theorem G4{xs:List WData}(h:(PySem.Challenge.rw_nt0261_01.pre).holds [] {args:= [.list xs]}=true):xs.length<=63:=by
 rcases yU 63 xs.length with l | l
 ·have e:less? (.int 63) (.int (xs.length:Int))=some true:=congrArg some (decide_eq_true (fW.mpr l));have key:∀o:Option Bool,o=some true->(match (match (match qY WData.bool o with | some (.bool b)=>some (WData.bool !b) | _=>none)with | some (.bool false)=>some (WData.bool false) | some (.bool true)=>some (.bool true) | _=>none)with | some (.bool true)=>true | _=>false)=false:=λo e=>by erw [e];rfl
  exact ll ((key _ e).symm.trans h)
 ·exact l
end
end Mine.Internal
end
section
open PySem PySem.Calls PyProof.Rows PySem.W
namespace Mine.Internal
mutual
def Uv:AOk callerA 200:=⟨rfl,by decide,by decide⟩
def fin_walk{q:Program}{loose:List Str}{XP:(Str->Option Value)->Heap->Prop}{d:DefRec}{kwd:List (Str×PySem.Expr)}(hn:d.name="law"):WalkO q loose XP hkSays PySem.Challenge.rw_nt0261_01.row.toRowW d kwd (λf vs=>call f vs):=by
 intro w rI bz mg mb G Y a o pm cd doc dV kV ho hd hcd hD hmg hg args vals as hpre hlay hrd hwl hlo;refine dq Y λK X e1 e2=>?_;have T:=topRead_of G.T;obtain⟨hs,hh⟩:=pre_splitW hpre;refine aL (Ec hs) λxs xq1 hx=>?_;subst xq1;have hl:=G4 hh;have gl:Gl (xH PySem.Challenge.rw_nt0261_01.row.toRowW.prog w K bz.heap q (looseW q loose) mg mb) "law" (.ref (mH K 130)):=by
  have:=(Pz (prog:=PySem.Challenge.rw_nt0261_01.row.toRowW.prog) (w:=w) X T e1 e2).glob "law" (.fn 130) (show yk.lookup (aa "law")=some (Gv.fn 130)from by kernel_rfl)
  refine dq this λa ha g zz=>?_
  have:a=mH K 130:=ae (ha.symm.trans (uY rfl))
  exact this ▸g
 rw[hn]at hmg;have ea:a=mH K 130:=by
  cases gl with
  | own e=>exact Value.ref.inj (ae (hmg.symm.trans (mg_of X T.g e)))
  | builtin e zz zy=>exact nomatch hmg.symm.trans (mg_none_of X T.g e)
 cases hrd with
 | cons r rs=>
  cases rs
  cases r with
  | list ho hc hd ra=>
   refine aL (uC (W:=xH PySem.Challenge.rw_nt0261_01.row.toRowW.prog w K bz.heap q (looseW q loose) mg mb) (B:=bz.heap.get?) (ρ:= []) ra hx) λl xq2 zz=>?_;subst xq2;have hv:∀ρ,VRs (xH PySem.Challenge.rw_nt0261_01.row.toRowW.prog w K bz.heap q (looseW q loose) mg mb) bz.heap.get? ρ [rL l] _:=λρ=> .cons (.a ho ⟨hc,_,hd⟩ (by
    refine aL (uC (W:=xH PySem.Challenge.rw_nt0261_01.row.toRowW.prog w K bz.heap q (looseW q loose) mg mb) (B:=bz.heap.get?) (ρ:=ρ) ra hx) λl' e q=>?_
    have:l=l':=(List.map_inj_right (λa b h=>WData.int.inj h)).mp e
    erw [this];exact q)) .nil;rw[aK]at hl
   erw [ea]
   have post:PySem.Challenge.rw_nt0261_01.row.toRowW.claim.post [.list (l.map .int)] (.bool true) [.list (l.map .int)]=true:=by
    show(WShape.has [] (.bool true) .bool && (WTm.eq .res (.lit (.bool true))).holds [] {args:= [.list (l.map .int)],res:=some (.bool true),after:= [.list (l.map .int)]})=true
    exact ag.mpr ⟨rfl,by simp[WTm.holds,WTm.value,same]⟩
   refine dN (EH X T e1 e2 Uv hl hv) (λv s' xq3=>vp xq3 λhv' hk hos hgn=>?_) λzz zy z=>z.elim;subst hv';exact GoodW.toG (Ad (.inl (iR _ (.bool true) ([]) rfl (λzz=>rfl) (.bool true) post (λzz=>⟨.nil,λzz m=>(nomatch m)⟩))) hk hos (hgn.trans hg))
end
end Mine.Internal
end
theorem PySem.Challenge.cw_nt0261_01_holds : PySem.Challenge.rw_nt0261_01.Holds :=
  Mine.Internal.hd Mine.Internal.fin_walk
