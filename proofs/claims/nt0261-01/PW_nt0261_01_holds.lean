import PyProof.Rows.All
import OpenK.KLine
import KE.KIsNot
import KE.KItem
import KE.KRevIter
import KE.KPairTest
import PyProof.StrLawsIn
import PySem.Challenge.RW_nt0261_01
set_option bootstrap.genMatcherCode false
set_option genSizeOf false
set_option compiler.extract_closed false
set_option backward.match.sparseCases false
set_option tactic.hygienic false
set_option genCtorIdx false
set_option genInjectivity false
set_option Elab.async false
set_option maxRecDepth 100000
set_option maxHeartbeats 1000000
set_option exponentiation.threshold 2000
set_option linter.all false

namespace Mine.Internal
@[elab_as_elim]theorem rwQ {α:Sort u}{a b:α}{P:α→Prop} (h:a=b) (x:P b):P a:=h▸x
@[elab_as_elim]theorem rwS {α:Sort u}{a b:α}{P:α→Prop} (h:b=a) (x:P b):P a:=h▸x
end Mine.Internal
open Lean in
local macro_rules (kind:=Lean.Parser.Command.mutual)|s=>if !s[1].getArgs.any fun c=>c[0].isOfKind ``Parser.Command.declModifiers&&!c[0][0].isNone then return mkNullNode (s[1].getArgs.map fun c=>let r:=c.rewriteBottomUp (·.setInfo .none);let d:=r[1];if r[0][4].isNone&&r[0].getNumArgs>4 then if d.isOfKind ``Parser.Command.definition then r.setArg 1 (mkNode ``Parser.Command.theorem #[mkAtom "theorem",d[1],mkNode ``Parser.Command.declSig #[d[2][0],d[2][1][0]],d[3]]) else if d.isOfKind ``Parser.Command.abbrev then (r.setArg 1 (mkNode ``Parser.Command.definition #[mkAtom "def",d[1],d[2],d[3],mkNullNode])).modifyArg 0 (·.setArg 4 (mkNullNode #[mkNode ``Parser.Command.noncomputable #[mkAtom "noncomputable"]])) else r else r) else Macro.throwUnsupported
open Lean in
local macro_rules (kind:=Lean.Parser.Tactic.cases)|s=>if s[2].isNone then Macro.throwUnsupported else return mkNode ``Parser.Tactic.induction #[mkAtom "induction",s[1],s[2],mkNullNode,s[3]]
open Lean in
local macro_rules (kind:=Lean.Parser.Tactic.tacticErw___)|s=>return mkNullNode (s[2][1].getSepArgs.map fun r=>mkNode ``Parser.Tactic.refine #[mkAtom "refine",Syntax.mkApp (mkIdent (if r[0].isNone then `Mine.Internal.rwQ else `Mine.Internal.rwS)) #[⟨mkNode ``Parser.Term.app #[r[1],mkNullNode #[mkNode ``Parser.Term.ellipsis #[mkAtom ".."]]]⟩,⟨mkNode ``Parser.Term.syntheticHole #[mkAtom "?",mkAtom "_"]⟩]])
open Lean in
local macro_rules
|`(command|universe $n*)=>return mkNode ``Parser.Command.mutual #[mkAtom "mutual",mkNullNode (←((Array.range' 43 1454).map (fun i=>`Mine.Internal.hd ++.mkSimple s!"{if #[51,87,116,184,210,236,262,288,314,340,366,417,443,468,493,518,543,604,672,719,748,809,883,942,999,1060,1079,1176,1202,1292,1341,1409,1482].contains i then "sts" else "o"}_1_{i}") ++ n.map fun i=>`Mine.Internal ++(match i.getId with|.str p "F"=>p.str "_f"|x=>x)).mapM fun c=>`(command|abbrev $(mkIdent (.mkSimple s!"tw{hash c}")) := True)),mkAtom "end"]
|`(tactic|refine $f:ident $as*)=>if f.getId.eraseMacroScopes== `PySem.W.holds_open then `(tactic|refine $(mkIdent `Mine.Internal.ho):ident $(as.extract 0 4 ++ as.extract 7 9 ++ as.extract 11 22)* ($(mkIdent `fin) (by exact rfl))) else Macro.throwUnsupported
open Array renaming ext'→q9, toList_append→uw
open Bool renaming and_eq_true_iff→ae, casesOn→aG, and_eq_true→cw, or_eq_false_iff→eP, false_eq_true→fF, not_eq_true'→gM, eq_false_iff→gN, or_eq_true_iff→jK, false_ne_true→nH
open Int renaming ofNat_le→bP, toNat_of_nonneg→bV, natCast_nonneg→fE, ofNat_lt→fX, fmod→gu, casesOn→iu, not_lt→jg, le_antisymm→jW, fdiv→lq, natCast_ne_zero→mQ, lt_irrefl→o7, mul_le_mul→t9, not_le→wQ, zero_mul→yY, zero_add→yZ, add_zero→y0, negSucc→B1
open Int.ofNat renaming inj→o6
open List renaming length_append→ag, casesOn→aw, append_assoc→aB, length_cons→aJ, length_map→aL, mem_cons→aR, all_eq_true→aT, getElem?_eq_some_iff→aU, map_append→bc, mem_cons_self→bl, map_cons→bp, getElem?_eq_getElem→bq, append_nil→br, mem_append_right→bC, mem_of_getElem?→bN, mem_cons_of_mem→bO, nodup_cons→bS, replicate→cD, mem_map→cN, range→cS, mem_append_left→cU, getElem?_append_right→dg, getElem?_append_left→dm, mem_append→dz, getElem?_toArray→dI, length_nil→dX, length_drop→d7, getElem?_map→ey, getElem?_eq_none→ez, filter_cons_of_pos→eK, filter_cons_of_neg→eN, nodup_append→fb, getD_eq_getElem?_getD→fc, getElem?_eq_none_iff→fm, contains_iff_mem→fu, mem_singleton→fD, range'→fM, nil_append→fN, length_reverse→fS, lookup→gc, cons_ne_nil→gd, map_map→iC, length_set→iM, take_append_drop→iS, length→jf, map_reverse→jk, cons_append→jl, mem_map_of_mem→jJ, getElem?_set_self→lh, flatten_cons→lj, drop_eq_nil_of_le→ll, perm_middle→lW, not_mem_nil→lX, length_take→lY, getElem?_set_ne→mv, map_nil→mU, rec→nE, drop_zero→nG, reverse_cons→oy, length_range→oz, any_cons→oZ, all_cons→o5, take_length→qn, append_eq_nil_iff→q7, find?_cons→rG, dropLast_eq_take→rR, getElem?_drop→wO, isEmpty_iff→AO, eq_nil_of_length_eq_zero→B0, zip_append→Dd
open List.cons renaming inj→dC
open Nat renaming le_of_ble_eq_true→ab, le_trans→aj, lt_of_lt_of_le→ao, le_refl→ay, ne_of_lt→aE, eq_of_beq_eq_true→aW, beq→aX, zero_le→aY, le_add_right→bw, le_antisymm→bJ, casesOn→bM, blt→cg, pow_le_pow_right→cq, min_le_right→cF, zero_lt_succ→cI, lt_succ_self→cJ, blt_eq→cM, le_of_succ_le→dh, ble→dn, add_comm→dq, succ_le_succ→dB, sub_add_cancel→dW, le_of_lt→d6, le_add_left→eF, lt_of_le_of_lt→fC, beq_refl→fW, add_assoc→f9, add_right_comm→gr, lt_trans→gK, le_succ_of_le→gL, not_lt→iA, le_of_eq→iB, min_eq_left→iK, le_max_left→iL, zero_add→ji, le_of_not_le→jj, lt_irrefl→jU, succ_pos→k9, lt_succ_of_le→lg, le_max_right→lV, add_le_add_left→mP, sub_self→mT, lt_succ_of_lt→ow, le_succ→ox, max_eq_right→ql, lt_add_of_pos_right→qm, sub_eq_zero_of_le→rP, ble_eq_true_of_le→rQ, sub_le_sub_right→t7, add_le_add_right→t8, sub_le→wK, pos_of_ne_zero→wL, max_le→wM, add_sub_cancel→wN, zero_mul→yU, lt_or_ge→yV, le_of_lt_succ→yW, gcd→yX, succ_ne_zero→AK, not_le_of_lt→AL, min_eq_right→AM, max_eq_left→Dc
open Nat.succ renaming inj→q6
open Option renaming casesOn→bf, map_eq_some_iff→bL, bind_eq_some_iff→cu, any_eq_true→iz, isNone_iff_eq_none→jq, isSome_iff_exists→jT, map→qZ
open Option.some renaming inj→af
open Or renaming casesOn→cW
open Prod.mk renaming inj→aD
open PySem renaming wpAny_bind→aH, wpAny_pure→bK, wpAny_holding→bX, behindInMarks→cZ, compareOp→dJ, wpAny_mono→dO, wpAny_standAt→eh, strIterType→eY, strValues→fI, foldedSetIterable→fJ, starEach→fT, assignInOrder→gE, letOwnedTupleGo→hY, assignEach→jE, partValue→kP, sizeLine→lB
open PySem.Builtin renaming divisionGoesByPylong→Df
open PySem.Builtin.Int renaming intBits→gW
open PySem.Builtin.List renaming listExtendWith→Dn
open PySem.Builtin.Range renaming small→cy, rangeSize→eO
open PySem.Builtin.Str renaming strSliceIndices→dN, occurrences→hV
open PySem.Expr renaming casesOn→bE
open PySem.Heap renaming get?_none_of_le→bQ, get?_push_of_some→cH, get?_push_size→dE, SameBut→fe, dictOf_iff→rH, get?_update_self→rS
open PySem.Heap.SameBut renaming update→uv
open PySem.Str renaming ofString→aa, join→qk, cps_append→tZ
open PySem.Value renaming casesOn→gP, str→AG
namespace Mine.Internal
mutual
def OZ{A:Sort _}{P:A->Prop}{C:Prop}(h:∃a,P a)(k:∀a,P a->C):C:=h.elim λa h=>k a h
def M5{A B:Sort _}{P:A->B->Prop}{C:Prop}(h:∃a b,P a b)(k:∀a b,P a b->C):C:=h.elim λa h=>h.elim λb h=>k a b h
def M4{A B D:Sort _}{P:A->B->D->Prop}{C:Prop}(h:∃a b c,P a b c)(k:∀a b c,P a b c->C):C:=h.elim λa h=>h.elim λb h=>h.elim λc h=>k a b c h
def M3{A B D E:Sort _}{P:A->B->D->E->Prop}{C:Prop}(h:∃a b c d,P a b c d)(k:∀a b c d,P a b c d->C):C:=h.elim λa h=>h.elim λb h=>h.elim λc h=>h.elim λd h=>k a b c d h
def PZ{A B D E F:Sort _}{P:A->B->D->E->F->Prop}{C:Prop}(h:∃a b c d e,P a b c d e)(k:∀a b c d e,P a b c d e->C):C:=h.elim λa h=>h.elim λb h=>h.elim λc h=>h.elim λd h=>h.elim λe h=>k a b c d e h
def S9{A B D E F G:Sort _}{P:A->B->D->E->F->G->Prop}{C:Prop}(h:∃a b c d e f,P a b c d e f)(k:∀a b c d e f,P a b c d e f->C):C:=h.elim λa h=>h.elim λb h=>h.elim λc h=>h.elim λd h=>h.elim λe h=>h.elim λf h=>k a b c d e f h
def S8{A B D E F G I:Sort _}{P:A->B->D->E->F->G->I->Prop}{C:Prop}(h:∃a b c d e f g,P a b c d e f g)(k:∀a b c d e f g,P a b c d e f g->C):C:=h.elim λa h=>h.elim λb h=>h.elim λc h=>h.elim λd h=>h.elim λe h=>h.elim λf h=>h.elim λg h=>k a b c d e f g h
def TU{A B D E F G I J:Sort _}{P:A->B->D->E->F->G->I->J->Prop}{C:Prop}(h:∃a b c d e f g i,P a b c d e f g i)(k:∀a b c d e f g i,P a b c d e f g i->C):C:=h.elim λa h=>h.elim λb h=>h.elim λc h=>h.elim λd h=>h.elim λe h=>h.elim λf h=>h.elim λg h=>h.elim λi h=>k a b c d e f g i h
def TT{A B D E F G I J K:Sort _}{P:A->B->D->E->F->G->I->J->K->Prop}{C:Prop}(h:∃a b c d e f g i j,P a b c d e f g i j)(k:∀a b c d e f g i j,P a b c d e f g i j->C):C:=h.elim λa h=>h.elim λb h=>h.elim λc h=>h.elim λd h=>h.elim λe h=>h.elim λf h=>h.elim λg h=>h.elim λi h=>h.elim λj h=>k a b c d e f g i j h
def M9{P Q C:Prop}(h:P/\Q)(k:P->Q->C):C:=k h.1 h.2
def M8{P Q R C:Prop}(h:P/\Q/\R)(k:P->Q->R->C):C:=k h.1 h.2.1 h.2.2
def PC{P Q R S C:Prop}(h:P/\Q/\R/\S)(k:P->Q->R->S->C):C:=k h.1 h.2.1 h.2.2.1 h.2.2.2
def M7{P Q R S T C:Prop}(h:P/\Q/\R/\S/\T)(k:P->Q->R->S->T->C):C:=k h.1 h.2.1 h.2.2.1 h.2.2.2.1 h.2.2.2.2
def PA{P Q R S T U C:Prop}(h:P/\Q/\R/\S/\T/\U)(k:P->Q->R->S->T->U->C):C:=k h.1 h.2.1 h.2.2.1 h.2.2.2.1 h.2.2.2.2.1 h.2.2.2.2.2
def M6{P Q R S T U V C:Prop}(h:P/\Q/\R/\S/\T/\U/\V)(k:P->Q->R->S->T->U->V->C):C:=k h.1 h.2.1 h.2.2.1 h.2.2.2.1 h.2.2.2.2.1 h.2.2.2.2.2.1 h.2.2.2.2.2.2
def UB{P Q R S T U V W C:Prop}(h:P/\Q/\R/\S/\T/\U/\V/\W)(k:P->Q->R->S->T->U->V->W->C):C:=k h.1 h.2.1 h.2.2.1 h.2.2.2.1 h.2.2.2.2.1 h.2.2.2.2.2.1 h.2.2.2.2.2.2.1 h.2.2.2.2.2.2.2
def eD{P Q R:Prop}(h1:P)(h2:Q)(h3:R):P/\Q/\R:=⟨h1,h2,h3⟩
def Ae{P Q R S:Prop}(h1:P)(h2:Q)(h3:R)(h4:S):P/\Q/\R/\S:=⟨h1,h2,h3,h4⟩
def we{P Q R S T:Prop}(h1:P)(h2:Q)(h3:R)(h4:S)(h5:T):P/\Q/\R/\S/\T:=⟨h1,h2,h3,h4,h5⟩
def QM{P Q R S T U:Prop}(h1:P)(h2:Q)(h3:R)(h4:S)(h5:T)(h6:U):P/\Q/\R/\S/\T/\U:=⟨h1,h2,h3,h4,h5,h6⟩
def QL{P Q R S T U V W:Prop}(h1:P)(h2:Q)(h3:R)(h4:S)(h5:T)(h6:U)(h7:V)(h8:W):P/\Q/\R/\S/\T/\U/\V/\W:=⟨h1,h2,h3,h4,h5,h6,h7,h8⟩
def bI{A:Sort _}{P Q:A->Prop}(a:A)(h1:P a)(h2:Q a):∃a,P a/\Q a:=⟨a,h1,h2⟩
def eH{A:Sort _}{P Q R:A->Prop}(a:A)(h1:P a)(h2:Q a)(h3:R a):∃a,P a/\Q a/\R a:=⟨a,h1,h2,h3⟩
def CH{A:Sort _}{P Q R S:A->Prop}(a:A)(h1:P a)(h2:Q a)(h3:R a)(h4:S a):∃a,P a/\Q a/\R a/\S a:=⟨a,h1,h2,h3,h4⟩
def QK{A:Sort _}{P Q R S T:A->Prop}(a:A)(h1:P a)(h2:Q a)(h3:R a)(h4:S a)(h5:T a):∃a,P a/\Q a/\R a/\S a/\T a:=⟨a,h1,h2,h3,h4,h5⟩
def uj{A B:Sort _}{P:A->B->Prop}(a:A)(b:B)(h1:P a b):∃a b,P a b:=⟨a,b,h1⟩
def kX{A B:Sort _}{P Q:A->B->Prop}(a:A)(b:B)(h1:P a b)(h2:Q a b):∃a b,P a b/\Q a b:=⟨a,b,h1,h2⟩
def i7{A B:Sort _}{P Q R:A->B->Prop}(a:A)(b:B)(h1:P a b)(h2:Q a b)(h3:R a b):∃a b,P a b/\Q a b/\R a b:=⟨a,b,h1,h2,h3⟩
def d4{A B:Sort _}{P Q R S:A->B->Prop}(a:A)(b:B)(h1:P a b)(h2:Q a b)(h3:R a b)(h4:S a b):∃a b,P a b/\Q a b/\R a b/\S a b:=⟨a,b,h1,h2,h3,h4⟩
def CG{A B:Sort _}{P Q R S T:A->B->Prop}(a:A)(b:B)(h1:P a b)(h2:Q a b)(h3:R a b)(h4:S a b)(h5:T a b):∃a b,P a b/\Q a b/\R a b/\S a b/\T a b:=⟨a,b,h1,h2,h3,h4,h5⟩
def HS{A B:Sort _}{P Q R S T U:A->B->Prop}(a:A)(b:B)(h1:P a b)(h2:Q a b)(h3:R a b)(h4:S a b)(h5:T a b)(h6:U a b):∃a b,P a b/\Q a b/\R a b/\S a b/\T a b/\U a b:=⟨a,b,h1,h2,h3,h4,h5,h6⟩
def HR{A B D:Sort _}{P:A->B->D->Prop}(a:A)(b:B)(c:D)(h1:P a b c):∃a b c,P a b c:=⟨a,b,c,h1⟩
def Ad{A B D:Sort _}{P Q:A->B->D->Prop}(a:A)(b:B)(c:D)(h1:P a b c)(h2:Q a b c):∃a b c,P a b c/\Q a b c:=⟨a,b,c,h1,h2⟩
def LF{A B D:Sort _}{P Q R:A->B->D->Prop}(a:A)(b:B)(c:D)(h1:P a b c)(h2:Q a b c)(h3:R a b c):∃a b c,P a b c/\Q a b c/\R a b c:=⟨a,b,c,h1,h2,h3⟩
def pS{A B D:Sort _}{P Q R S:A->B->D->Prop}(a:A)(b:B)(c:D)(h1:P a b c)(h2:Q a b c)(h3:R a b c)(h4:S a b c):∃a b c,P a b c/\Q a b c/\R a b c/\S a b c:=⟨a,b,c,h1,h2,h3,h4⟩
def iR{A B D:Sort _}{P Q R S T:A->B->D->Prop}(a:A)(b:B)(c:D)(h1:P a b c)(h2:Q a b c)(h3:R a b c)(h4:S a b c)(h5:T a b c):∃a b c,P a b c/\Q a b c/\R a b c/\S a b c/\T a b c:=⟨a,b,c,h1,h2,h3,h4,h5⟩
def LD{A B D:Sort _}{P Q R S T U:A->B->D->Prop}(a:A)(b:B)(c:D)(h1:P a b c)(h2:Q a b c)(h3:R a b c)(h4:S a b c)(h5:T a b c)(h6:U a b c):∃a b c,P a b c/\Q a b c/\R a b c/\S a b c/\T a b c/\U a b c:=⟨a,b,c,h1,h2,h3,h4,h5,h6⟩
def QJ{A B D E:Sort _}{P:A->B->D->E->Prop}(a:A)(b:B)(c:D)(d:E)(h1:P a b c d):∃a b c d,P a b c d:=⟨a,b,c,d,h1⟩
def QI{A B D E:Sort _}{P Q:A->B->D->E->Prop}(a:A)(b:B)(c:D)(d:E)(h1:P a b c d)(h2:Q a b c d):∃a b c d,P a b c d/\Q a b c d:=⟨a,b,c,d,h1,h2⟩
def yi{A B D E:Sort _}{P Q R:A->B->D->E->Prop}(a:A)(b:B)(c:D)(d:E)(h1:P a b c d)(h2:Q a b c d)(h3:R a b c d):∃a b c d,P a b c d/\Q a b c d/\R a b c d:=⟨a,b,c,d,h1,h2,h3⟩
def QH{A B D E:Sort _}{P Q R S:A->B->D->E->Prop}(a:A)(b:B)(c:D)(d:E)(h1:P a b c d)(h2:Q a b c d)(h3:R a b c d)(h4:S a b c d):∃a b c d,P a b c d/\Q a b c d/\R a b c d/\S a b c d:=⟨a,b,c,d,h1,h2,h3,h4⟩
def tB{A B D E:Sort _}{P Q R S T:A->B->D->E->Prop}(a:A)(b:B)(c:D)(d:E)(h1:P a b c d)(h2:Q a b c d)(h3:R a b c d)(h4:S a b c d)(h5:T a b c d):∃a b c d,P a b c d/\Q a b c d/\R a b c d/\S a b c d/\T a b c d:=⟨a,b,c,d,h1,h2,h3,h4,h5⟩
def QG{A B D E:Sort _}{P Q R S T U:A->B->D->E->Prop}(a:A)(b:B)(c:D)(d:E)(h1:P a b c d)(h2:Q a b c d)(h3:R a b c d)(h4:S a b c d)(h5:T a b c d)(h6:U a b c d):∃a b c d,P a b c d/\Q a b c d/\R a b c d/\S a b c d/\T a b c d/\U a b c d:=⟨a,b,c,d,h1,h2,h3,h4,h5,h6⟩
def HQ{A B D E:Sort _}{P Q R S T U V:A->B->D->E->Prop}(a:A)(b:B)(c:D)(d:E)(h1:P a b c d)(h2:Q a b c d)(h3:R a b c d)(h4:S a b c d)(h5:T a b c d)(h6:U a b c d)(h7:V a b c d):∃a b c d,P a b c d/\Q a b c d/\R a b c d/\S a b c d/\T a b c d/\U a b c d/\V a b c d:=⟨a,b,c,d,h1,h2,h3,h4,h5,h6,h7⟩
def Oh{A B D E F:Sort _}{P Q:A->B->D->E->F->Prop}(a:A)(b:B)(c:D)(d:E)(e:F)(h1:P a b c d e)(h2:Q a b c d e):∃a b c d e,P a b c d e/\Q a b c d e:=⟨a,b,c,d,e,h1,h2⟩
def yh{A B D E F:Sort _}{P Q R:A->B->D->E->F->Prop}(a:A)(b:B)(c:D)(d:E)(e:F)(h1:P a b c d e)(h2:Q a b c d e)(h3:R a b c d e):∃a b c d e,P a b c d e/\Q a b c d e/\R a b c d e:=⟨a,b,c,d,e,h1,h2,h3⟩
def EX{A B D E F:Sort _}{P Q R S T:A->B->D->E->F->Prop}(a:A)(b:B)(c:D)(d:E)(e:F)(h1:P a b c d e)(h2:Q a b c d e)(h3:R a b c d e)(h4:S a b c d e)(h5:T a b c d e):∃a b c d e,P a b c d e/\Q a b c d e/\R a b c d e/\S a b c d e/\T a b c d e:=⟨a,b,c,d,e,h1,h2,h3,h4,h5⟩
def EW{A B D E F:Sort _}{P Q R S T U V:A->B->D->E->F->Prop}(a:A)(b:B)(c:D)(d:E)(e:F)(h1:P a b c d e)(h2:Q a b c d e)(h3:R a b c d e)(h4:S a b c d e)(h5:T a b c d e)(h6:U a b c d e)(h7:V a b c d e):∃a b c d e,P a b c d e/\Q a b c d e/\R a b c d e/\S a b c d e/\T a b c d e/\U a b c d e/\V a b c d e:=⟨a,b,c,d,e,h1,h2,h3,h4,h5,h6,h7⟩
def LC{A B D E F G:Sort _}{P Q R S T U:A->B->D->E->F->G->Prop}(a:A)(b:B)(c:D)(d:E)(e:F)(f:G)(h1:P a b c d e f)(h2:Q a b c d e f)(h3:R a b c d e f)(h4:S a b c d e f)(h5:T a b c d e f)(h6:U a b c d e f):∃a b c d e f,P a b c d e f/\Q a b c d e f/\R a b c d e f/\S a b c d e f/\T a b c d e f/\U a b c d e f:=⟨a,b,c,d,e,f,h1,h2,h3,h4,h5,h6⟩
def Ac{A B D E F G:Sort _}{P Q R S T U V:A->B->D->E->F->G->Prop}(a:A)(b:B)(c:D)(d:E)(e:F)(f:G)(h1:P a b c d e f)(h2:Q a b c d e f)(h3:R a b c d e f)(h4:S a b c d e f)(h5:T a b c d e f)(h6:U a b c d e f)(h7:V a b c d e f):∃a b c d e f,P a b c d e f/\Q a b c d e f/\R a b c d e f/\S a b c d e f/\T a b c d e f/\U a b c d e f/\V a b c d e f:=⟨a,b,c,d,e,f,h1,h2,h3,h4,h5,h6,h7⟩
def yg{A B D E F G I:Sort _}{P Q R S T U:A->B->D->E->F->G->I->Prop}(a:A)(b:B)(c:D)(d:E)(e:F)(f:G)(g:I)(h1:P a b c d e f g)(h2:Q a b c d e f g)(h3:R a b c d e f g)(h4:S a b c d e f g)(h5:T a b c d e f g)(h6:U a b c d e f g):∃a b c d e f g,P a b c d e f g/\Q a b c d e f g/\R a b c d e f g/\S a b c d e f g/\T a b c d e f g/\U a b c d e f g:=⟨a,b,c,d,e,f,g,h1,h2,h3,h4,h5,h6⟩
def Og{A B D E F G I:Sort _}{P Q R S T U V:A->B->D->E->F->G->I->Prop}(a:A)(b:B)(c:D)(d:E)(e:F)(f:G)(g:I)(h1:P a b c d e f g)(h2:Q a b c d e f g)(h3:R a b c d e f g)(h4:S a b c d e f g)(h5:T a b c d e f g)(h6:U a b c d e f g)(h7:V a b c d e f g):∃a b c d e f g,P a b c d e f g/\Q a b c d e f g/\R a b c d e f g/\S a b c d e f g/\T a b c d e f g/\U a b c d e f g/\V a b c d e f g:=⟨a,b,c,d,e,f,g,h1,h2,h3,h4,h5,h6,h7⟩
def QF{A B D E F G I J:Sort _}{P Q R S T:A->B->D->E->F->G->I->J->Prop}(a:A)(b:B)(c:D)(d:E)(e:F)(f:G)(g:I)(i:J)(h1:P a b c d e f g i)(h2:Q a b c d e f g i)(h3:R a b c d e f g i)(h4:S a b c d e f g i)(h5:T a b c d e f g i):∃a b c d e f g i,P a b c d e f g i/\Q a b c d e f g i/\R a b c d e f g i/\S a b c d e f g i/\T a b c d e f g i:=⟨a,b,c,d,e,f,g,i,h1,h2,h3,h4,h5⟩
def Of{A B D E F G I J:Sort _}{P Q R S T U V:A->B->D->E->F->G->I->J->Prop}(a:A)(b:B)(c:D)(d:E)(e:F)(f:G)(g:I)(i:J)(h1:P a b c d e f g i)(h2:Q a b c d e f g i)(h3:R a b c d e f g i)(h4:S a b c d e f g i)(h5:T a b c d e f g i)(h6:U a b c d e f g i)(h7:V a b c d e f g i):∃a b c d e f g i,P a b c d e f g i/\Q a b c d e f g i/\R a b c d e f g i/\S a b c d e f g i/\T a b c d e f g i/\U a b c d e f g i/\V a b c d e f g i:=⟨a,b,c,d,e,f,g,i,h1,h2,h3,h4,h5,h6,h7⟩
def wc{A B D E F G I J K:Sort _}{P Q R S T U V:A->B->D->E->F->G->I->J->K->Prop}(a:A)(b:B)(c:D)(d:E)(e:F)(f:G)(g:I)(i:J)(j:K)(h1:P a b c d e f g i j)(h2:Q a b c d e f g i j)(h3:R a b c d e f g i j)(h4:S a b c d e f g i j)(h5:T a b c d e f g i j)(h6:U a b c d e f g i j)(h7:V a b c d e f g i j):∃a b c d e f g i j,P a b c d e f g i j/\Q a b c d e f g i j/\R a b c d e f g i j/\S a b c d e f g i j/\T a b c d e f g i j/\U a b c d e f g i j/\V a b c d e f g i j:=⟨a,b,c,d,e,f,g,i,j,h1,h2,h3,h4,h5,h6,h7⟩
def Nh{P Q:Prop}{C:Prop}(h:P/\Q)(k:P->Q->C):C:=M9 h k
def kI{P Q R:Prop}{C:Prop}(h:P/\Q/\R)(k:P->Q->R->C):C:=M8 h k
def vr{P Q R S:Prop}{C:Prop}(h:P/\Q/\R/\S)(k:P->Q->R->S->C):C:=PC h k
def Qe{P Q R S T:Prop}{C:Prop}(h:P/\Q/\R/\S/\T)(k:P->Q->R->S->T->C):C:=M7 h k
def Ng{P Q R S T U V W:Prop}{C:Prop}(h:P/\Q/\R/\S/\T/\U/\V/\W)(k:P->Q->R->S->T->U->V->W->C):C:=UB h k
def Ki{A:Sort _}{P:A->Prop}{C:Prop}(h:∃a,P a)(k:∀a,P a->C):C:=OZ h k
def aM{A:Sort _}{P Q:A->Prop}{C:Prop}(h:∃a,P a/\Q a)(k:∀a,P a->Q a->C):C:=OZ h λa p=>M9 p (k a)
def dt{A:Sort _}{P Q R:A->Prop}{C:Prop}(h:∃a,P a/\Q a/\R a)(k:∀a,P a->Q a->R a->C):C:=OZ h λa p=>M8 p (k a)
def B4{A:Sort _}{P Q R S:A->Prop}{C:Prop}(h:∃a,P a/\Q a/\R a/\S a)(k:∀a,P a->Q a->R a->S a->C):C:=OZ h λa p=>PC p (k a)
def Gp{A:Sort _}{P Q R S T:A->Prop}{C:Prop}(h:∃a,P a/\Q a/\R a/\S a/\T a)(k:∀a,P a->Q a->R a->S a->T a->C):C:=OZ h λa p=>M7 p (k a)
def y5{A B:Sort _}{P:A->B->Prop}{C:Prop}(h:∃a b,P a b)(k:∀a b,P a b->C):C:=M5 h k
def gz{A B:Sort _}{P Q:A->B->Prop}{C:Prop}(h:∃a b,P a b/\Q a b)(k:∀a b,P a b->Q a b->C):C:=M5 h λa b p=>M9 p (k a b)
def dY{A B:Sort _}{P Q R:A->B->Prop}{C:Prop}(h:∃a b,P a b/\Q a b/\R a b)(k:∀a b,P a b->Q a b->R a b->C):C:=M5 h λa b p=>M8 p (k a b)
def fy{A B:Sort _}{P Q R S:A->B->Prop}{C:Prop}(h:∃a b,P a b/\Q a b/\R a b/\S a b)(k:∀a b,P a b->Q a b->R a b->S a b->C):C:=M5 h λa b p=>PC p (k a b)
def uc{A B:Sort _}{P Q R S T:A->B->Prop}{C:Prop}(h:∃a b,P a b/\Q a b/\R a b/\S a b/\T a b)(k:∀a b,P a b->Q a b->R a b->S a b->T a b->C):C:=M5 h λa b p=>M7 p (k a b)
def Go{A B:Sort _}{P Q R S T U:A->B->Prop}{C:Prop}(h:∃a b,P a b/\Q a b/\R a b/\S a b/\T a b/\U a b)(k:∀a b,P a b->Q a b->R a b->S a b->T a b->U a b->C):C:=M5 h λa b p=>PA p (k a b)
def ub{A B D:Sort _}{P:A->B->D->Prop}{C:Prop}(h:∃a b c,P a b c)(k:∀a b c,P a b c->C):C:=M4 h k
def vq{A B D:Sort _}{P Q:A->B->D->Prop}{C:Prop}(h:∃a b c,P a b c/\Q a b c)(k:∀a b c,P a b c->Q a b c->C):C:=M4 h λa b c p=>M9 p (k a b c)
def B3{A B D:Sort _}{P Q R:A->B->D->Prop}{C:Prop}(h:∃a b c,P a b c/\Q a b c/\R a b c)(k:∀a b c,P a b c->Q a b c->R a b c->C):C:=M4 h λa b c p=>M8 p (k a b c)
def gT{A B D:Sort _}{P Q R S:A->B->D->Prop}{C:Prop}(h:∃a b c,P a b c/\Q a b c/\R a b c/\S a b c)(k:∀a b c,P a b c->Q a b c->R a b c->S a b c->C):C:=M4 h λa b c p=>PC p (k a b c)
def jX{A B D:Sort _}{P Q R S T:A->B->D->Prop}{C:Prop}(h:∃a b c,P a b c/\Q a b c/\R a b c/\S a b c/\T a b c)(k:∀a b c,P a b c->Q a b c->R a b c->S a b c->T a b c->C):C:=M4 h λa b c p=>M7 p (k a b c)
def Gn{A B D:Sort _}{P Q R S T U:A->B->D->Prop}{C:Prop}(h:∃a b c,P a b c/\Q a b c/\R a b c/\S a b c/\T a b c/\U a b c)(k:∀a b c,P a b c->Q a b c->R a b c->S a b c->T a b c->U a b c->C):C:=M4 h λa b c p=>PA p (k a b c)
def Nf{A B D E:Sort _}{P Q:A->B->D->E->Prop}{C:Prop}(h:∃a b c d,P a b c d/\Q a b c d)(k:∀a b c d,P a b c d->Q a b c d->C):C:=M3 h λa b c d p=>M9 p (k a b c d)
def w6{A B D E:Sort _}{P Q R:A->B->D->E->Prop}{C:Prop}(h:∃a b c d,P a b c d/\Q a b c d/\R a b c d)(k:∀a b c d,P a b c d->Q a b c d->R a b c d->C):C:=M3 h λa b c d p=>M8 p (k a b c d)
def w5{A B D E:Sort _}{P Q R S:A->B->D->E->Prop}{C:Prop}(h:∃a b c d,P a b c d/\Q a b c d/\R a b c d/\S a b c d)(k:∀a b c d,P a b c d->Q a b c d->R a b c d->S a b c d->C):C:=M3 h λa b c d p=>PC p (k a b c d)
def w3{A B D E:Sort _}{P Q R S T:A->B->D->E->Prop}{C:Prop}(h:∃a b c d,P a b c d/\Q a b c d/\R a b c d/\S a b c d/\T a b c d)(k:∀a b c d,P a b c d->Q a b c d->R a b c d->S a b c d->T a b c d->C):C:=M3 h λa b c d p=>M7 p (k a b c d)
def Kh{A B D E:Sort _}{P Q R S T U:A->B->D->E->Prop}{C:Prop}(h:∃a b c d,P a b c d/\Q a b c d/\R a b c d/\S a b c d/\T a b c d/\U a b c d)(k:∀a b c d,P a b c d->Q a b c d->R a b c d->S a b c d->T a b c d->U a b c d->C):C:=M3 h λa b c d p=>PA p (k a b c d)
def Gm{A B D E:Sort _}{P Q R S T U V:A->B->D->E->Prop}{C:Prop}(h:∃a b c d,P a b c d/\Q a b c d/\R a b c d/\S a b c d/\T a b c d/\U a b c d/\V a b c d)(k:∀a b c d,P a b c d->Q a b c d->R a b c d->S a b c d->T a b c d->U a b c d->V a b c d->C):C:=M3 h λa b c d p=>M6 p (k a b c d)
def Qd{A B D E F:Sort _}{P Q:A->B->D->E->F->Prop}{C:Prop}(h:∃a b c d e,P a b c d e/\Q a b c d e)(k:∀a b c d e,P a b c d e->Q a b c d e->C):C:=PZ h λa b c d e p=>M9 p (k a b c d e)
def Qc{A B D E F:Sort _}{P Q R:A->B->D->E->F->Prop}{C:Prop}(h:∃a b c d e,P a b c d e/\Q a b c d e/\R a b c d e)(k:∀a b c d e,P a b c d e->Q a b c d e->R a b c d e->C):C:=PZ h λa b c d e p=>M8 p (k a b c d e)
def Dp{A B D E F:Sort _}{P Q R S T:A->B->D->E->F->Prop}{C:Prop}(h:∃a b c d e,P a b c d e/\Q a b c d e/\R a b c d e/\S a b c d e/\T a b c d e)(k:∀a b c d e,P a b c d e->Q a b c d e->R a b c d e->S a b c d e->T a b c d e->C):C:=PZ h λa b c d e p=>M7 p (k a b c d e)
def w2{A B D E F:Sort _}{P Q R S T U V:A->B->D->E->F->Prop}{C:Prop}(h:∃a b c d e,P a b c d e/\Q a b c d e/\R a b c d e/\S a b c d e/\T a b c d e/\U a b c d e/\V a b c d e)(k:∀a b c d e,P a b c d e->Q a b c d e->R a b c d e->S a b c d e->T a b c d e->U a b c d e->V a b c d e->C):C:=PZ h λa b c d e p=>M6 p (k a b c d e)
def Qb{A B D E F G:Sort _}{P Q R S T U:A->B->D->E->F->G->Prop}{C:Prop}(h:∃a b c d e f,P a b c d e f/\Q a b c d e f/\R a b c d e f/\S a b c d e f/\T a b c d e f/\U a b c d e f)(k:∀a b c d e f,P a b c d e f->Q a b c d e f->R a b c d e f->S a b c d e f->T a b c d e f->U a b c d e f->C):C:=S9 h λa b c d e f p=>PA p (k a b c d e f)
def Do{A B D E F G:Sort _}{P Q R S T U V:A->B->D->E->F->G->Prop}{C:Prop}(h:∃a b c d e f,P a b c d e f/\Q a b c d e f/\R a b c d e f/\S a b c d e f/\T a b c d e f/\U a b c d e f/\V a b c d e f)(k:∀a b c d e f,P a b c d e f->Q a b c d e f->R a b c d e f->S a b c d e f->T a b c d e f->U a b c d e f->V a b c d e f->C):C:=S9 h λa b c d e f p=>M6 p (k a b c d e f)
def Nd{A B D E F G I:Sort _}{P Q R S T U:A->B->D->E->F->G->I->Prop}{C:Prop}(h:∃a b c d e f g,P a b c d e f g/\Q a b c d e f g/\R a b c d e f g/\S a b c d e f g/\T a b c d e f g/\U a b c d e f g)(k:∀a b c d e f g,P a b c d e f g->Q a b c d e f g->R a b c d e f g->S a b c d e f g->T a b c d e f g->U a b c d e f g->C):C:=S8 h λa b c d e f g p=>PA p (k a b c d e f g)
def w1{A B D E F G I:Sort _}{P Q R S T U V:A->B->D->E->F->G->I->Prop}{C:Prop}(h:∃a b c d e f g,P a b c d e f g/\Q a b c d e f g/\R a b c d e f g/\S a b c d e f g/\T a b c d e f g/\U a b c d e f g/\V a b c d e f g)(k:∀a b c d e f g,P a b c d e f g->Q a b c d e f g->R a b c d e f g->S a b c d e f g->T a b c d e f g->U a b c d e f g->V a b c d e f g->C):C:=S8 h λa b c d e f g p=>M6 p (k a b c d e f g)
def Nc{A B D E F G I J:Sort _}{P Q R S T U V:A->B->D->E->F->G->I->J->Prop}{C:Prop}(h:∃a b c d e f g i,P a b c d e f g i/\Q a b c d e f g i/\R a b c d e f g i/\S a b c d e f g i/\T a b c d e f g i/\U a b c d e f g i/\V a b c d e f g i)(k:∀a b c d e f g i,P a b c d e f g i->Q a b c d e f g i->R a b c d e f g i->S a b c d e f g i->T a b c d e f g i->U a b c d e f g i->V a b c d e f g i->C):C:=TU h λa b c d e f g i p=>M6 p (k a b c d e f g i)
def wZ{A B D E F G I J K:Sort _}{P Q R S T U V:A->B->D->E->F->G->I->J->K->Prop}{C:Prop}(h:∃a b c d e f g i j,P a b c d e f g i j/\Q a b c d e f g i j/\R a b c d e f g i j/\S a b c d e f g i j/\T a b c d e f g i j/\U a b c d e f g i j/\V a b c d e f g i j)(k:∀a b c d e f g i j,P a b c d e f g i j->Q a b c d e f g i j->R a b c d e f g i j->S a b c d e f g i j->T a b c d e f g i j->U a b c d e f g i j->V a b c d e f g i j->C):C:=TT h λa b c d e f g i j p=>M6 p (k a b c d e f g i j)
end
end Mine.Internal
section
namespace Mine.Internal
mutual
variable{x0 x1 x2 x3 x4:Nat}{c:List Nat}
inductive Li where
 | lv (i:Nat)
 | ln (k:Nat)
 | lp (a b:Li)
 | lm (k:Nat) (a:Li)
 | lr (a:Li) (k:Nat)
abbrev fG(x l:List Nat):Nat:=nE (λzz=>0) (λa zz r x=>a*x.headD 0+r x.tail) l x
abbrev xW(l r:List Nat):List Nat:=nE (λr=>r) (λa l f r=>Nat.add a (r.headD 0)::f r.tail) l r
abbrev m9(i:Nat):List Nat:=Nat.rec [1] (λzz r=>0::r) i
abbrev HD(l r:List Nat):Bool:=nE (λzz=>true) (λa l f r=>dn a (r.headD 0) && f r.tail) l r
abbrev JF(c:List Nat)(i:Nat):Nat:=Nat.rec (λc=>c.headD 0) (λzz r c=>r c.tail) i c
abbrev gy(c:List Nat)(e:Li):Nat:=Li.rec (λi=>JF c i) (λk=>k) (λzz zy x y=>x+y) (λk zz x=>k*x) (λzz k x=>x*k) e
abbrev lU(e:Li):List Nat:=Li.rec (λi=>0::m9 i) (λk=> [k]) (λzz zy x y=>xW x y) (λk zz x=>x.map (Nat.mul k)) (λzz k x=>x.map (Nat.mul k)) e
abbrev nh(c:List Nat)(h:List (Li×Li))(P:Prop):Prop:=nE P (λq zz r=>gy c q.1<=gy c q.2->r) h
abbrev nt(h:List (Li×Li))(g g':List Nat):Bool:=nE HD (λq zz r g g'=>r (xW g (lU q.2)) (xW g' (lU q.1))) h g g'
def qK(l:List Nat):∀r x,fG x (xW l r)=fG x l+fG x r:=by
 induction l with
 | nil=>exact λr x=>(ji _).symm
 | cons a l ih=>
  intro r x;have e:fG x r=r.headD 0*x.headD 0+fG x.tail r.tail:=by
   cases r with
   | nil=>exact((congrArg (· +0) (yU _))).symm
   | cons=>rfl
  show(a+r.headD 0)*x.headD 0+fG x.tail (xW l r.tail)=a*x.headD 0+fG x.tail l+fG x r
  erw [ih,e,Nat.add_mul,Nat.add_add_add_comm];rfl
def xV(l:List Nat):∀r x,HD l r=true->fG x l<=fG x r:=by
 induction l with
 | nil=>exact λr x zz=>aY _
 | cons a l ih=>
  intro r x h;have e:fG x r=r.headD 0*x.headD 0+fG x.tail r.tail:=by
   cases r with
   | nil=>exact((congrArg (· +0) (yU _))).symm
   | cons=>rfl
  have h:(dn a (r.headD 0) && HD l r.tail)=true:=h
  erw [e]
  exact Nat.add_le_add (Nat.mul_le_mul_right _ (ab (ae.mp h).1)) (ih _ _ (ae.mp h).2)
def z4(i:Nat):∀x,fG x (m9 i)=JF x i:=by
 induction i with
 | zero=>exact λx=>Nat.one_mul _
 | succ i ih=>exact λx=>(congrArg (· +fG x.tail (m9 i)) (yU _)).trans ((ji _).trans (ih _))
def uQ(k:Nat)(l:List Nat):∀x,fG x (l.map (Nat.mul k))=k*fG x l:=by
 induction l with
 | nil=>exact λzz=>rfl
 | cons a l ih=>exact λx=>(congrArg (Nat.mul k a*x.headD 0+ ·) (ih _)).trans ((congrArg (· +k*fG x.tail l) (Nat.mul_assoc ..)).trans (Nat.mul_add ..).symm)
def nj(c:List Nat)(e:Li):gy c e=fG (1::c) (lU e):=by
 induction e with
 | lv i=>exact(z4 i c).symm.trans ((ji _).symm.trans (congrArg (· +fG c (m9 i)) (yU 1).symm))
 | ln k=>exact(Nat.mul_one k).symm
 | lp a b x y=>exact(congr (congrArg HAdd.hAdd x) y).trans (qK ..).symm
 | lm k a x=>exact(congrArg (k* ·) x).trans (uQ ..).symm
 | lr a k x=>exact(congrArg (· *k) x).trans ((Nat.mul_comm ..).trans (uQ ..).symm)
def Sg(c:List Nat)(P:Prop)(h:List (Li×Li)):∀g g',nt h g g'=true->(∀a b,HD a b=true->fG (1::c) g+fG (1::c) b<=fG (1::c) g'+fG (1::c) a->P)->nh c h P:=by
 induction h with
 | nil=>exact λg g' e k=>k g g' e (iB (dq ..))
 | cons q h ih=>
  exact λg g' e k z=>ih _ _ e λa b l u=>k a b l (by
   have z:gy c q.1<=gy c q.2:=z
   have z:fG (1::c) (lU q.1)<=fG (1::c) (lU q.2):=nj c q.1 ▸nj c q.2 ▸z
   exact Nat.le_of_add_le_add_right (aj (iB ((gr ..).trans (congrArg (· +fG (1::c) b) (qK g (lU q.2) (1::c)).symm))) (aj u (aj (iB (congrArg (· +fG (1::c) a) (qK ..))) (aj (t8 (mP z _) _) (iB (gr ..)))))))
def MY(g g':Li)(h:List (Li×Li))(ok:nt h (lU g) (lU g')=true):nh c h (gy c g<=gy c g'):=Sg c _ h _ _ ok λa b l u=>by
 erw [nj,nj]
 exact Nat.le_of_add_le_add_right (aj u (mP (xV a b (1::c) l) _))
def aS:true=true:=rfl
def pK{a b:Nat}(h:a=b):a<=b:=iB h
def lz{a b:Nat}(h:a=b):b<=a:=iB h.symm
def th(a b:Nat):a<=a-b+b:=Nat.le_add_of_sub_le (ay _)
inductive Ii where
 | iv (i:Nat)
 | ic (e:Li)
 | ik (z:Int)
 | ip (a b:Ii)
 | is (a b:Ii)
 | ig (a:Ii)
 | im (z:Int) (a:Ii)
 | ir (a:Ii) (z:Int)
inductive Hs where
 | ho
 | hz (a b:Ii) (r:Hs)
 | hn (a b:Li) (r:Hs)
abbrev c9(x l:List Int):Int:=nE (λzz=>0) (λa zz r x=>a*x.headD 0+r x.tail) l x
abbrev j5(l r:List Int):List Int:=nE (λr=>r) (λa l f r=>Int.add a (r.headD 0)::f r.tail) l r
abbrev md(z:Int)(l:List Int):List Int:=l.map (Int.mul z)
abbrev JD(c:List Int)(i:Nat):Int:=Nat.rec (λc=>c.headD 0) (λzz r c=>r c.tail) i c
abbrev d5(l:List Nat):List Int:=l.map Int.ofNat
abbrev il(ci:List Int)(cn:List Nat)(e:Ii):Int:=Ii.rec (λi=>JD ci i) (λe=>((gy cn e:Nat):Int)) (λz=>z) (λzz zy x y=>x+y) (λzz zy x y=>x-y) (λzz x=> -x) (λz zz x=>z*x) (λzz z x=>x*z) e
abbrev lD(e:Ii):List Int×List Int:=Ii.rec (λi=>(0::d5 (m9 i),[])) (λe=>([],d5 (lU e))) (λz=>([z],[])) (λzz zy x y=>(j5 x.1 y.1,j5 x.2 y.2)) (λzz zy x y=>(j5 x.1 (md (-1) y.1),j5 x.2 (md (-1) y.2))) (λzz x=>(md (-1) x.1,md (-1) x.2)) (λz zz x=>(md z x.1,md z x.2)) (λzz z x=>(md z x.1,md z x.2)) e
abbrev EE(ci:List Int)(cn:List Nat)(h:Hs)(P:Prop):Prop:=Hs.rec P (λa b zz r=>il ci cn a<=il ci cn b->r) (λa b zz r=>gy cn a<=gy cn b->r) h
abbrev EC(l:List Int):Bool:=nE true (λa zz r=>decide (a=0) && r) l
abbrev JC(l:List Int):Bool:=nE true (λa zz r=>decide (0<=a) && r) l
abbrev JE(A B:List Int):Bool:=decide (0<=A.headD 0+B.headD 0) && (EC A.tail && JC B.tail)
abbrev EF(h:Hs)(A B:List Int):Bool:=Hs.rec JE (λa b zz r A B=>r (j5 A (lD (.is a b)).1) (j5 B (lD (.is a b)).2)) (λa b zz r A B=>r A (j5 B (lD (.is (.ic a) (.ic b))).2)) h A B
def N5(a b c d:Int):a+b+(c+d)=a+c+(b+d):=by lia
def Qz(a b c d:Int):a+b-(c+d)=a+ -1*c+(b+ -1*d):=by lia
def Qy(a b:Int):-(a+b)= -1*a+ -1*b:=by lia
def oQ(x l:List Int):c9 x l=l.headD 0*x.headD 0+c9 x.tail l.tail:=by
 cases l with
 | nil=>exact((congrArg (· +0) (yY _))).symm
 | cons=>rfl
def jx(l:List Int):∀r x,c9 x (j5 l r)=c9 x l+c9 x r:=by
 induction l with
 | nil=>exact λr x=>(yZ _).symm
 | cons a l ih=>
  intro r x
  erw [oQ x r]
  show(a+r.headD 0)*x.headD 0+c9 x.tail (j5 l r.tail)=a*x.headD 0+c9 x.tail l+_
  erw [ih,Int.add_mul]
  exact N5 ..
def iX(z:Int)(l:List Int):∀x,c9 x (md z l)=z*c9 x l:=by
 induction l with
 | nil=>exact λzz=>(Int.mul_zero z).symm
 | cons a l ih=>exact λx=>(congrArg (z*a*x.headD 0+ ·) (ih _)).trans ((congrArg (· +z*c9 x.tail l) (Int.mul_assoc ..)).trans (Int.mul_add ..).symm)
def z0(l:List Nat):∀x,c9 (d5 x) (d5 l)=((fG x l:Nat):Int):=by
 induction l with
 | nil=>exact λzz=>rfl
 | cons a l ih=>
  intro x;have e:c9 (d5 x).tail (d5 l)=((fG x.tail l:Nat):Int):=by cases x with | nil=>exact ih [] | cons y r=>exact ih r
  have f:(d5 x).headD 0=((x.headD 0:Nat):Int):=by cases x <;> rfl
  show(a:Int)*(d5 x).headD 0+c9 (d5 x).tail (d5 l)=((a*x.headD 0+fG x.tail l:Nat):Int)
  erw [e,f,Int.natCast_add,Int.natCast_mul];rfl
def zZ(i:Nat):∀x,c9 x (d5 (m9 i))=JD x i:=by
 induction i with
 | zero=>exact λx=>(y0 _).trans (Int.one_mul _)
 | succ i ih=>exact λx=>(congrArg (· +c9 x.tail (d5 (m9 i))) (yY _)).trans ((yZ _).trans (ih _))
abbrev ED(ci:List Int)(cn:List Nat)(q:List Int×List Int):Int:=c9 (1::ci) q.1+c9 (d5 (1::cn)) q.2
def tg(ci:List Int)(cn:List Nat)(e:Ii):il ci cn e=ED ci cn (lD e):=by
 induction e with
 | iv i=>exact(zZ i ci).symm.trans ((yZ _).symm.trans ((congrArg (· +c9 ci (d5 (m9 i))) (yY 1).symm).trans (y0 _).symm))
 | ic e=>exact(congrArg Int.ofNat (nj cn e)).trans ((z0 ..).symm.trans (yZ _).symm)
 | ik z=>exact(Int.mul_one z).symm.trans ((y0 _).symm.trans (y0 _).symm)
 | ip a b x y=>
  show il ci cn a+il ci cn b=_
  erw [x,y];show _=c9 (1::ci) (j5 (lD a).1 (lD b).1)+c9 (d5 (1::cn)) (j5 (lD a).2 (lD b).2);erw [jx,jx];exact N5 ..
 | is a b x y=>
  show il ci cn a-il ci cn b=_
  erw [x,y];show _=c9 (1::ci) (j5 (lD a).1 (md (-1) (lD b).1))+c9 (d5 (1::cn)) (j5 (lD a).2 (md (-1) (lD b).2));erw [jx,jx,iX,iX];exact Qz ..
 | ig a x=>
  show -il ci cn a=_
  erw [x];show _=c9 (1::ci) (md (-1) (lD a).1)+c9 (d5 (1::cn)) (md (-1) (lD a).2);erw [iX,iX];exact Qy ..
 | im z a x=>exact(congrArg (z* ·) x).trans ((Int.mul_add ..).trans (congr (congrArg HAdd.hAdd (iX ..).symm) (iX ..).symm))
 | ir a z x=>exact(congrArg (· *z) x).trans ((Int.mul_comm ..).trans ((Int.mul_add ..).trans (congr (congrArg HAdd.hAdd (iX ..).symm) (iX ..).symm)))
def xU(l:List Int):∀x,EC l=true->c9 x l=0:=by
 induction l with
 | nil=>exact λzz zy=>rfl
 | cons a l ih=>
  intro x h;have h:=ae.mp h;show a*_+c9 x.tail l=0
  erw [of_decide_eq_true h.1,ih _ h.2,yY];rfl
def zX(l:List Int):∀x:List Nat,JC l=true->0<=c9 (d5 x) l:=by
 induction l with
 | nil=>exact λzz zy=>Int.le_refl 0
 | cons a l ih=>
  intro x h;have h:=ae.mp h;have e:0<=c9 (d5 x).tail l:=by cases x with | nil=>exact ih [] h.2 | cons y r=>exact ih r h.2
  have f:0<=(d5 x).headD 0:=by cases x with | nil=>exact Int.le_refl 0 | cons y r=>exact fE y
  exact Int.add_nonneg (Int.mul_nonneg (of_decide_eq_true h.1) f) e
def zY{A B:List Int}(ci:List Int)(cn:List Nat)(h:JE A B=true):0<=ED ci cn (A,B):=by
 have h:=ae.mp h;have h2:=ae.mp h.2;have a:=xU A.tail ci h2.1;have b:=zX B.tail cn h2.2;have c:=of_decide_eq_true h.1;have d:c9 (d5 (1::cn)) B=B.headD 0*1+c9 (d5 cn) B.tail:=oQ _ B;have e:c9 (1::ci) A=A.headD 0*1+c9 ci A.tail:=oQ _ A;show 0<=c9 (1::ci) A+c9 (d5 (1::cn)) B
 erw [d,e]
 lia
def Se(ci:List Int)(cn:List Nat)(P:Prop)(h:Hs):∀A B,EF h A B=true->(0<=ED ci cn (A,B)->P)->EE ci cn h P:=by
 induction h with
 | ho=>exact λA B e k=>k (zY ci cn e)
 | hz a b h ih=>
  exact λA B e k (z:il ci cn a<=il ci cn b)=>ih _ _ e λu=>k (by
   have w:=tg ci cn (.is a b)
   have w:il ci cn a-il ci cn b=c9 (1::ci) (lD (.is a b)).1+c9 (d5 (1::cn)) (lD (.is a b)).2:=w
   have u:0<=c9 (1::ci) (j5 A (lD (.is a b)).1)+c9 (d5 (1::cn)) (j5 B (lD (.is a b)).2):=u
   show 0<=c9 (1::ci) A+c9 (d5 (1::cn)) B
   rw[jx,jx]at u
   lia)
 | hn a b h ih=>
  exact λA B e k (z:gy cn a<=gy cn b)=>ih _ _ e λu=>k (by
   have w:=tg ci cn (.is (.ic a) (.ic b))
   have w:(gy cn a:Int)-(gy cn b:Int)=c9 (1::ci) [] +c9 (d5 (1::cn)) (lD (.is (.ic a) (.ic b))).2:=w
   have w0:c9 (1::ci) []=0:=rfl
   have u:0<=c9 (1::ci) A+c9 (d5 (1::cn)) (j5 B (lD (.is (.ic a) (.ic b))).2):=u
   show 0<=c9 (1::ci) A+c9 (d5 (1::cn)) B
   rw[jx]at u
   lia)
def eC(ci:List Int)(cn:List Nat)(m:Nat)(g g':Ii)(h:Hs)(ok:EF h (lD (.ip (.im (m+1) (.is g' g)) (.ik m))).1 (lD (.ip (.im (m+1) (.is g' g)) (.ik m))).2=true):EE ci cn h (il ci cn g<=il ci cn g'):=Se ci cn _ h _ _ ok λu=>by
 have w:=tg ci cn (.ip (.im (m+1) (.is g' g)) (.ik m));have w:((m:Int)+1)*(il ci cn g'-il ci cn g)+m=_:=w;have u:0<=((m:Int)+1)*(il ci cn g'-il ci cn g)+m:=w ▸u;by_cases c:il ci cn g<=il ci cn g'
 ·exact c
 ·have d:il ci cn g'-il ci cn g<=-1:=by lia
  have e:=Int.mul_le_mul_of_nonneg_left (c:=(m:Int)+1) d (by lia);lia
def Dk(ci:List Int)(cn:List Nat)(h:Hs)(ok:EF h [-1] []=true):EE ci cn h False:=Se ci cn _ h _ _ ok λu=>by
 have u:0<=c9 (1::ci) [-1] +c9 (d5 (1::cn)) []:=u;have a:c9 (1::ci) [-1]= -1:=rfl;have b:c9 (d5 (1::cn)) []=0:=rfl;lia
def pL{x:Int}{k:Nat}(h:0<=x+k)(h':x<=k):x.natAbs<=k:=by lia
def wW{a b:Int}(h:a=b):a<=b:=Int.le_of_eq h
def wV{a b:Int}(h:a=b):b<=a:=Int.le_of_eq h.symm
def ug(a k:Nat):k*(a / k)<=a:=Nat.mul_div_le a k
abbrev aK(a b:Li):Li:= .lp a b
abbrev eT(a:Li):Li:= .lp a (.ln 1)
abbrev f6(k:Nat)(a:Li):Li:= .lm k a
abbrev aI(k:Nat):Li:= .ln k
abbrev ai:Li:= .lv 0
abbrev az:Li:= .lv 1
abbrev bH:Li:= .lv 2
abbrev cQ:Li:= .lv 3
abbrev nW:Li:= .lv 4
abbrev N4:Li:= .lv 5
def Sf(h:List (Li×Li))(ok:nt h [1] []=true):nh c h False:=Sg c _ h _ _ ok λa b l u=>by
 have:=xV a b (1::c) l;have z:fG (1::c) [1]=1:=rfl;have y:fG (1::c) []=0:=rfl;lia
def cA(g g':Li)(h:List (Li×Li))(ok:nt h (lU g) (lU g')=true):nh [x0] h (gy [x0] g<=gy [x0] g'):=MY g g' h ok
def Q1(h:List (Li×Li))(ok:nt h [1] []=true):nh [x0] h False:=Sf h ok
def bF(g g':Li)(h:List (Li×Li))(ok:nt h (lU g) (lU g')=true):nh [x0,x1] h (gy [x0,x1] g<=gy [x0,x1] g'):=MY g g' h ok
def CM(h:List (Li×Li))(ok:nt h [1] []=true):nh [x0,x1] h False:=Sf h ok
def gn(g g':Li)(h:List (Li×Li))(ok:nt h (lU g) (lU g')=true):nh [x0,x1,x2] h (gy [x0,x1,x2] g<=gy [x0,x1,x2] g'):=MY g g' h ok
def gV(g g':Li)(h:List (Li×Li))(ok:nt h (lU g) (lU g')=true):nh [x0,x1,x2,x3] h (gy [x0,x1,x2,x3] g<=gy [x0,x1,x2,x3] g'):=MY g g' h ok
def Aj(g g':Li)(h:List (Li×Li))(ok:nt h (lU g) (lU g')=true):nh [x0,x1,x2,x3,x4] h (gy [x0,x1,x2,x3,x4] g<=gy [x0,x1,x2,x3,x4] g'):=MY g g' h ok
def OA{x5:Nat}(g g':Li)(h:List (Li×Li))(ok:nt h (lU g) (lU g')=true):nh [x0,x1,x2,x3,x4,x5] h (gy [x0,x1,x2,x3,x4,x5] g<=gy [x0,x1,x2,x3,x4,x5] g'):=MY g g' h ok
abbrev bh:Li:=eT ai
abbrev cO:Li:=eT az
abbrev mc:Li:=eT bH
abbrev Qx:Li:=eT cQ
abbrev cY:Li:=aI 1000000
abbrev TN(a:Li)(k:Nat):Li:= .lr a k
end
end Mine.Internal
end
section
open PySem PySem.Calls PyProof.Rows PySem.W
namespace Mine.Internal
mutual
inductive AV where
 | none
 | bool (b:Bool)
 | int (i:Int)
 | str (s:List Nat)
 | U (vs:List AV)
 | a (vs:List AV)
 | obj (i:Nat)
 | rng (a b c:Int)
 | ref (k:Nat)
abbrev AV.ctorIdx(x:AV):Nat:=AV.casesOn x 0 (λzz=>1) (λzz=>2) (λzz=>3) (λzz=>4) (λzz=>5) (λzz=>6) (λzz zy zx=>7) (λzz=>8)
set_option genInjectivity true in
inductive Cell where
 | list (vs:List AV)
 | n (c:Nat) (fs:List (Nat×AV))
 | dict (es:List (List Nat×AV))
abbrev Cell.ctorIdx(x:Cell):Nat:=Cell.casesOn x (λzz=>0) (λzz zy=>1) (λzz=>2)
noncomputable abbrev Hp:=List Cell
noncomputable abbrev Ls:=List (Option AV)
set_option genCtorIdx true in
inductive O2 where
 | add | sub | mul | fdiv | mod | pow | shl | shr | band
set_option genCtorIdx true in
inductive CO where
 | eq | ne | lt | le | gt | ge | is | isnot | isin | notin
set_option genCtorIdx true in
inductive BI where
 | abs | chr | ord | len | divmod | int | list | max | min | str | tuple | all | range
inductive IK where
 | bool | int | cls (c:Nat)
inductive PT where
 | one (i:Nat)
 | many (is:List Nat)
inductive E where
 | fail
 | lit (v:AV)
 | v (i:Nat)
 | list (es:List E)
 | U (es:List E)
 | dict0
 | o (o:O2) (a b:E)
 | neg (a:E)
 | not (a:E)
 | j (o:CO) (a b:E)
 | chain (a:E) (o:CO) (b:E) (o':CO) (c:E)
 | and (a b:E)
 | or (a b:E)
 | ife (c a b:E)
 | aT (a:E) (f:Nat)
 | idx (a b:E)
 | slice (a:E) (lo hi:Option E)
 | call (f:Nat) (args:List E)
 | new (c:Nat) (args:List E)
 | bi (b:BI) (args:List E)
 | h (a:E) (k:IK)
 | meth (a:E) (m:Nat) (args:List E)
 | esc (p:List Nat) (x:E) (y1:Nat) (z1:List Nat) (y2:Nat) (z2:List Nat)
 | joinrev (a b:E)
 | dget (kvs:List (Int×List Nat)) (k d:E)
 | comp (elt:E) (t:PT) (src:E) (enum:Bool) (cond:Option E)
inductive T where
 | v (i:Nat)
 | aT (a:E) (f:Nat)
 | idx (a b:E)
 | U (ts:List T)
inductive S where
 | fail
 | expr (e:E)
 | ret (e:E)
 | retn
 | aS (t:T) (e:E)
 | ite (c:E) (a b:List S)
 | while (c:E) (b:List S)
 | for (t:PT) (src:E) (b:List S)
 | pass
 | cont
 | try_ (b:List S)
abbrev S.ctorIdx(x:S):Nat:=S.casesOn x 0 (λzz=>1) (λzz=>2) 3 (λzz zy=>4) (λzz zy zx=>5) (λzz zy=>6) (λzz zy zx=>7) 8 9 (λzz=>10)
structure Fn where
 np:Nat
 dfl:List AV
 nl:Nat
 body:List S
structure Cls where
 init:Nat
 meths:List (Nat×Nat)
 flds:List Nat
inductive Gv where
 | fn (i:Nat)
 | cls (i:Nat)
 | bi (b:BI)
 | rev
 | enum
 | isinst
 | ty (k:IK)
 | val (v:AV)
abbrev Gv.ctorIdx(x:Gv):Nat:=Gv.casesOn x (λzz=>0) (λzz=>1) (λzz=>2) 3 4 5 (λzz=>6) (λzz=>7)
structure CX where
 scope:Scope
 slots:List (Str×Nat)
 nxt:Nat
 glob:List (Str×Gv)
 nm:List Str
abbrev tA(x:Str):List Str->Option Nat
 | []=>none
 | y::r=>if x==y then some 0 else(tA x r).map (· +1)
abbrev Fm:Str:=⟨#[95,95,100,101,98,117,103,95,95]⟩
abbrev tP:Str:=⟨#[95,95,99,108,97,115,115,100,105,99,116,95,95]⟩
abbrev Jy:Str:=⟨#[95,95,110,97,109,101,95,95]⟩
abbrev Rf:Str:=⟨#[46,48]⟩
abbrev Ej(x:Str):Bool:=x==Fm || x==tP || x==Jy
abbrev CX.gv(cx:CX)(x:Str):Option Gv:=if cx.scope.names.lookup x==some .globalImplicit && !Ej x then cx.glob.lookup x else none
abbrev CX.slot(cx:CX)(x:Str):Option Nat:=if Ej x then none else match cx.scope.names.lookup x with
 | some .local | some .cell | some .free=>cx.slots.lookup x
 | _=>none
abbrev cv:Expr->Bool
 | .Starred .. =>false
 | _=>true
abbrev QD:Expr->Bool
 | .Name _ _=>true
 | _=>false
abbrev iV:Expr->Bool
 | .Call f a k _=> !(QD f && (a.isEmpty && k.isEmpty))
 | _=>true
abbrev kY(args:List Expr):Bool:=args.all cv && cg args.length 29
abbrev e8(o:Expr)(apos pos:Pos)(args:List Expr):Bool:=iV o && (apos.endLine==pos.line) && kY args
abbrev pH{α:Type}(o:Option α)(k:α->E):E:=match o with
 | some a=>k a
 | none=> .fail
abbrev wX(b:Bool)(c:E):E:=match b with
 | true=>c
 | false=> .fail
abbrev Ay:Expr->Option (Expr×List Expr×Pos)
 | .Call g args [] p=>some (g,args,p)
 | _=>none
abbrev FP:Expr->Option (Expr×Str×Pos)
 | .Attribute a f p=>some (a,f,p)
 | _=>none
abbrev AZ:Expr->Option (Str×Nat×Pos)
 | .Constant (.str s) k p=>some (s,k,p)
 | _=>none
abbrev isAdd:Operator->Bool
 | .Add=>true
 | _=>false
abbrev mC:Expr->Option (Option Expr×Option Expr×Option Expr×Pos)
 | .Slice a b c p=>some (a,b,c,p)
 | _=>none
abbrev BK:Expr->Option (List (Option Expr)×List Expr×Pos)
 | .Dict ks vs p=>some (ks,vs,p)
 | _=>none
abbrev Bi{α:Type}:List α->Option (α×α)
 | [x,y]=>some (x,y)
 | _=>none
abbrev xE{α:Type}:List α->Option α
 | [x]=>some x
 | _=>none
abbrev G2{α:Type}(b:Bool)(x:Option α):Option α:=match b with
 | true=>x
 | false=>none
structure RepP where
 x:Expr
 r:Str
 p1:Pos
 y:Str
 ky:Nat
 qy:Pos
 z:Str
 kz:Nat
 qz:Pos
 p2:Pos
abbrev KN(e:Expr):Option RepP:=
 (Ay e).bind λc=>(FP c.1).bind λa=>(Bi c.2.1).bind λq=>(AZ q.1).bind λy=>(AZ q.2).bind λz=>
  some ⟨a.1,a.2.1,a.2.2,y.1,y.2.1,y.2.2,z.1,z.2.1,z.2.2,c.2.2⟩
structure EscP where
 p:Str×Nat×Pos
 b:RepP
 c:RepP
 c1:Nat
 c2:Nat
abbrev Ir(nm:List Str)(a:Expr)(op:Operator)(b:Expr):Option EscP:=
 (AZ a).bind λp=>G2 (isAdd op) ((KN b).bind λb=>(KN b.x).bind λc=>(xE c.y.cps.toList).bind λc1=>(xE b.y.cps.toList).bind λc2=>
  G2 (iV c.x && nm[8]? ==some c.r && nm[8]? ==some b.r && (c.p1.endLine==c.p2.line) && (b.p1.endLine==b.p2.line)) (some ⟨p,b,c,c1,c2⟩))
abbrev JW:CmpOp->CO
 | .Eq=> .eq | .NotEq=> .ne | .Lt=> .lt | .LtE=> .le | .Gt=> .gt | .GtE=> .ge | .Is=> .is | .IsNot=> .isnot | .In=> .isin | .NotIn=> .notin
abbrev Px:Operator->Option O2
 | .Add=>some .add | .Sub=>some .sub | .Mult=>some .mul | .FloorDiv=>some .fdiv | .Mod=>some .mod | .Pow=>some .pow | .LShift=>some .shl | .RShift=>some .shr | .BitAnd=>some .band
 | _=>none
abbrev jL:Expr->Option Str
 | .Name x _=>some x
 | _=>none
abbrev qX(out:Scope)(sc:Scope):Scope:={sc with names:=sc.names.map fun(n,k)=>if k== .free && out.kind== .function && out.names.lookup n==some .cell then(n, .cell)else(n,k)}
abbrev C0:List (PyData×PyData)->Option (List (Int×List Nat))
 | []=>some []
 | (.int i, .str s)::r=>(C0 r).map ((i,s.cps.toList)::·)
 | _=>none
abbrev rK(cx:CX):Expr->Option PT
 | .Name x _=>(cx.slot x).map .one
 | .Tuple es _ _=>(es.mapM λe=>(jL e).bind cx.slot).map .many
 | _=>none
abbrev PT.slots:PT->List Nat
 | .one i=> [i]
 | .many is=>is
abbrev pG(sc:Scope):List Str:=(sc.names.filter fun(x,k)=>k== .local && !(x==Rf)).map (·.1)
abbrev CX.inner(cx:CX)(sc:Scope):CX:=
 {cx with scope:=qX cx.scope sc,slots:=((pG sc).zip (fM cx.nxt (pG sc).length))++(cx.slots.filter fun(x,zz)=>(sc.names.lookup x)==some .free),nxt:=cx.nxt+(pG sc).length}
abbrev As:List E->Option (Option E)
 | []=>some none
 | [c]=>some (some c)
 | _=>none
abbrev G1(cx:CX)(sc:Scope)(pt:PT):Bool:=
 sc.kind== .function && sc.names.all (fun(x,k)=>k != .local || sc.names.lookup x==some .local) && sc.names.all (fun(x,k)=>k != .cell) &&
 sc.names.all (fun(x,k)=>k != .free || (cx.scope.names.lookup x==some .cell)) && pt.slots.all (dn cx.nxt) && (fM cx.nxt (pG sc).length).all pt.slots.contains
abbrev jQ(mk:E->E->E):List E->E
 | []=> .fail
 | x::r=>match r with
  | []=>x
  | _::_=>mk x (jQ mk r)
abbrev Qr:BoolOp->E->E->E
 | .And=> .and
 | .Or=> .or
abbrev JB:Const->E
 | .none=> .lit .none
 | .bool b=> .lit (.bool b)
 | .int i=> .lit (.int i)
 | .str s=> .lit (.str s.cps.toList)
 | _=> .fail
abbrev Gv.asVal:Gv->Option AV
 | .val v=>some v
 | _=>none
abbrev Gv.asIK:Gv->Option IK
 | .ty k=>some k
 | .cls c=>some (.cls c)
 | .bi .int=>some .int
 | _=>none
abbrev Gv.isRev:Gv->Bool
 | .rev=>true
 | _=>false
abbrev Gv.isEnum:Gv->Bool
 | .enum=>true
 | _=>false
abbrev ny(cx:CX)(x:Str):E:=match cx.slot x with
 | some i=> .v i
 | none=>pH ((cx.gv x).bind Gv.asVal) .lit
abbrev qe(f:Expr->E)(nm:List Str)(a:Expr)(op:Operator)(b:Expr):E:=match Ir nm a op b with
 | some z=> .esc z.p.1.cps.toList (f z.c.x) z.c1 z.c.z.cps.toList z.c2 z.b.z.cps.toList
 | none=>pH (Px op) λo=> .o o (f a) (f b)
abbrev Fs(f:Expr->E)(op:UnaryOp)(a:Expr):E:=match op with
 | .USub=> .neg (f a)
 | .Not=> .not (f a)
 | _=> .fail
abbrev wy(f:Expr->E)(a:Expr)(ops:List CmpOp)(bs:List Expr):E:=match ops with
 | []=> .fail
 | o::ops=>match bs with
  | []=> .fail
  | b::bs=>match ops with
   | []=>match bs with
    | []=>wX (!cZ o b) (.j (JW o) (f a) (f b))
    | _::_=> .fail
   | o'::ops=>match bs with
    | []=> .fail
    | c::bs=>match ops with
     | _::_=> .fail
     | []=>match bs with
      | _::_=> .fail
      | []=>wX (!cZ o b) (wX (!cZ o' c) (.chain (f a) (JW o) (f b) (JW o') (f c)))
abbrev ID(f:Expr->E)(cx:CX)(args:List Expr):E:=pH (Bi args) λp=>pH (jL p.2) λx=>pH ((cx.gv x).bind Gv.asIK) λk=> .h (f p.1) k
abbrev Fv(f:Expr->E)(cx:CX)(args:List Expr):Gv->E
 | .fn i=> .call i (args.map f)
 | .cls i=> .new i (args.map f)
 | .bi b=> .bi b (args.map f)
 | .isinst=>ID f cx args
 | _=> .fail
structure DgetP where
 ks:List (Option Expr)
 vs:List Expr
 p:Pos
 k:Expr
 d:Expr
 D:List (PyData×PyData)
 t:List (Int×List Nat)
abbrev BL(o:Expr)(i:Nat)(args:List Expr):Option DgetP:=
 (BK o).bind λz=>(Bi args).bind λq=>(litPairs z.1 z.2.1).bind λD=>(C0 D).bind λt=>
  G2 (i==2 && intKeyed D && decide (intKeysOf D).Nodup && z.1.all (·.isSome) && z.1.length==z.2.1.length && cg z.1.length 16 && !z.1.isEmpty) (some ⟨z.1,z.2.1,z.2.2,q.1,q.2,D,t⟩)
structure RevP where
 g:Str
 gp:Pos
 x:Expr
 p:Pos
abbrev nA(cx:CX)(q:Gv->Bool)(e:Expr):Option RevP:=
 (Ay e).bind λc=>match c.1 with
  | .Name g gp=>(xE c.2.1).bind λx=>(cx.gv g).bind λv=>G2 (q v && cv x) (some ⟨g,gp,x,c.2.2⟩)
  | _=>none
abbrev KL(cx:CX)(i:Nat)(args:List Expr):Option RevP:=(xE args).bind λa=>G2 (i==6) (nA cx Gv.isRev a)
abbrev Ft(f:Expr->E)(cx:CX)(o:Expr)(i:Nat)(args:List Expr):E:=match BL o i args with
 | some z=> .dget z.t (f z.k) (f z.d)
 | none=>match KL cx i args with
  | some z=> .joinrev (f o) (f z.x)
  | none=> .meth (f o) i (args.map f)
abbrev tO(f:Expr->E)(cx:CX)(g:Expr)(args:List Expr)(pos:Pos):E:=match g with
 | .Name g _=>wX (kY args) (pH (cx.gv g) (Fv f cx args))
 | .Attribute o m apos=>wX (e8 o apos pos args) (pH (tA m cx.nm) λi=>Ft f cx o i args)
 | _=> .fail
abbrev qd(f:Expr->E)(a b:Expr):E:=match mC b with
 | some z=>wX z.2.2.1.isNone (.slice (f a) (z.1.map f) (z.2.1.map f))
 | none=> .idx (f a) (f b)
abbrev PT.isMany:PT->Bool
 | .many _=>true
 | _=>false
abbrev Fu(g:CX->Expr->E)(cx:CX)(elt:Expr)(sc:Scope)(c:Comprehension):E:=
 wX (c.is_async==0) (pH (rK (cx.inner sc) c.target) λpt=>pH (As (c.ifs.map (g (cx.inner sc)))) λcnd=>wX (G1 cx sc pt) (match nA cx Gv.isEnum c.iter with
  | some z=>wX pt.isMany (.comp (g (cx.inner sc) elt) pt (g cx z.x) true cnd)
  | none=> .comp (g (cx.inner sc) elt) pt (g cx c.iter) false cnd))
abbrev cp:Nat->CX->Expr->E
 | 0,_,_=> .fail
 | n+1,cx,e=>match e with
  | .Constant c _ _=>JB c
  | .Name x _=>ny cx x
  | .BoolOp op es _=>wX (cg 1 es.length) (jQ (Qr op) (es.map (cp n cx)))
  | .BinOp a op b _=>qe (cp n cx) cx.nm a op b
  | .UnaryOp op a _=>Fs (cp n cx) op a
  | .IfExp c a b _=> .ife (cp n cx c) (cp n cx a) (cp n cx b)
  | .Compare a ops bs _=>wy (cp n cx) a ops bs
  | .Call g args kws pos=>match kws with
   | []=>tO (cp n cx) cx g args pos
   | _::_=> .fail
  | .Attribute a f _=>wX (iV a) (pH (tA f cx.nm) λi=> .aT (cp n cx a) i)
  | .Subscript a b _=>qd (cp n cx) a b
  | .List es _=>wX (es.all cv) (.list (es.map (cp n cx)))
  | .Tuple es _ _=>wX (es.all cv) (.U (es.map (cp n cx)))
  | .Dict ks vs _=>wX (ks.isEmpty && vs.isEmpty) .dict0
  | .ListComp elt gens sc _=>pH (xE gens) (Fu (cp n) cx elt sc)
  | _=> .fail
abbrev KM{α β:Type}(b:Bool)(o:Option α)(k:α->β):Option β:=match b with
 | true=>o.map k
 | false=>none
abbrev mO:Nat->CX->Expr->Option T
 | 0,_,_=>none
 | n+1,cx,e=>match e with
  | .Name x _=>(cx.slot x).map .v
  | .Attribute a f _=>KM (iV a) (tA f cx.nm) (.aT (cp 100 cx a))
  | .Subscript a b _=>match mC b with
   | some zz=>none
   | none=>some (.idx (cp 100 cx a) (cp 100 cx b))
  | .Tuple es _ _=>KM (es.all cv) (es.mapM (mO n cx)) .U
  | _=>none
set_option backward.match.sparseCases true in
noncomputable def jr(sc:Scope)(ts vs:List Expr):Option (Option (List Str)):=
 if !(ts.length==2 || ts.length==3) || vs.length !=ts.length || sc.kind != .function then some none else
 if vs.any (λ| .Starred .. =>true | _=>false)then some none else
 let line:=(ts.head?.map (·.pos.line)).getD 0;let names:=ts.filterMap fun
  | .Name id pos=>if sc.names.lookup id==some .local && pos.line==line then some id else none
  | _=>none
 if names.length !=ts.length || names.eraseDups.length !=names.length then some none else
 if vs.all (foldedForSure 8)then some none else
 if vs.all (constantsAlone 8)then none else some (some names)
abbrev DG(sc:Scope):Expr->Expr->Bool
 | .Tuple ts _ _, .Tuple vs _ _=>match jr sc ts vs with
  | none=>false
  | some none=>true
  | some (some ns)=>decide ns.Nodup && decide (ns.map some=ts.map jL)
 | .List _ _,_=>false
 | _,_=>true
abbrev kO:Expr->Bool
 | .ListComp .. =>false
 | .SetComp .. =>false
 | .DictComp .. =>false
 | _=>true
abbrev G9{α:Type}(o:Option α)(k:α->S):S:=match o with
 | some a=>k a
 | none=> .fail
abbrev QE(b:Bool)(c:S):S:=match b with
 | true=>c
 | false=> .fail
abbrev IC(hs:List ExceptHandler)(o f:List Stmt)(b:List S):S:=match hs with
 | []=> .fail
 | _::_=>match o with
  | _::_=> .fail
  | []=>match f with
   | _::_=> .fail
   | []=> .try_ b
abbrev ke:Nat->CX->Stmt->S
 | 0,_,_=> .fail
 | n+1,cx,s=>match s with
  | .Expr e _=>QE (kO e) (.expr (cp 100 cx e))
  | .Return e _=>match e with
   | some e=> .ret (cp 100 cx e)
   | none=> .retn
  | .Assign ts e _=>G9 (xE ts) λt=>QE (DG cx.scope t e) (G9 (mO 10 cx t) λt=> .aS t (cp 100 cx e))
  | .If c a b _=> .ite (cp 100 cx c) (a.map (ke n cx)) (b.map (ke n cx))
  | .While c b o _=>match o with
   | []=> .while (cp 100 cx c) (b.map (ke n cx))
   | _::_=> .fail
  | .For t it b o _=>match o with
   | []=>G9 (rK cx t) λpt=> .for pt (cp 100 cx it) (b.map (ke n cx))
   | _::_=> .fail
  | .Pass _=> .pass
  | .Continue _=> .cont
  | .Try b hs o f _=>IC hs o f (b.map (ke n cx))
  | _=> .fail
abbrev Av(glob:List (Str×Gv))(nm:List Str)(params:Arguments)(dfl:List AV)(scope:Scope)(body:List Stmt):Fn:=
 let ps:=params.args.map (·.arg);let more:=(scope.names.filter fun(x,k)=>(k== .local || k== .cell) && !ps.contains x).map (·.1);let ns:=ps++more;let cx:CX:={scope,slots:=ns.zip (cS ns.length),nxt:=ns.length,glob,nm}
 {np:=ps.length,dfl,nl:=ns.length+2,body:=body.map (ke 40 cx)}
structure Pg where
 fns:List Fn
 clss:List Cls
 objs:List Nat
noncomputable abbrev aO(s:List Nat):Str:=⟨s.toArray⟩
abbrev vg:BI->Value
 | .abs=> .builtin "abs"
 | .chr=> .builtin "chr"
 | .ord=> .builtin "ord"
 | .len=> .builtin "len"
 | .divmod=> .builtin "divmod"
 | .int=> .type "int"
 | .list=> .type "list"
 | .max=> .builtin "max"
 | .min=> .builtin "min"
 | .str=> .type "str"
 | .tuple=> .type "tuple"
 | .all=> .builtin "all"
 | .range=> .type "range"
abbrev Ai(K:Frag)(C:Addr)(n:Str):Bool:=plainGet K C n && hasDictIn K C && findIn K (.ref C) n==some none &&
 findIn K (.ref C) "__setattr__"==some (some (.builtin "object.__setattr__")) && plainOver K C
abbrev Bs(K:Frag)(C:Addr)(n:Str)(f:Addr):Bool:=plainGet K C n && findIn K (.ref C) n==some (some (.ref f)) && isFn K (.ref f) && keepIn K (.ref f)
abbrev IF(K:Frag)(C:Addr):Bool:=plainGet K C "__class__" && hasDictIn K C && findIn K (.ref C) "__class__"==some (some (.builtin "object.__class__")) && mroIn K C (.type "object")==some true &&
 isIn K (.ref C) C && isNotIn K "int" C && isNotIn K "bool" C && kin_notT K C "bool" && kin_notT K C "int"
abbrev kh(p:Arguments):Bool:=p.posonlyargs.isEmpty && p.vararg.isNone && p.kwonlyargs.isEmpty && p.kwarg.isNone
abbrev BM(oa:List Addr):Value->Option AV
 | .none=>some .none
 | .bool b=>some (.bool b)
 | .int i _=>some (.int i)
 | .str s _=>some (.str s.cps.toList)
 | .ref a=>(oa.findIdx? (· ==a)).map .obj
 | _=>none
abbrev oW(oa:List Addr):List Value->Option (List AV)
 | []=>some []
 | v::r=>match BM oa v,oW oa r with
  | some x,some y=>some (x::y)
  | _,_=>none
abbrev rY(ps:List Str)(sc:Scope):Bool:=
 sc.kind== .function && !sc.isCoroutine && !sc.isGenerator && sc.names.all (fun(x,k)=>sc.names.lookup x==some k) && decide ((sc.names.map (·.1)).Nodup) && sc.names.all (fun(x,k)=>k != .free) && decide ps.Nodup &&
 ps.all (λp=>sc.names.lookup p==some .local || sc.names.lookup p==some .cell)
end
end Mine.Internal
end
section
namespace Mine.Internal
mutual
abbrev f0:Fn:=⟨0,[],0,[.fail]⟩
abbrev f1:Fn:=⟨2,[],4,[(.aS (.aT (.v 0) 11) (.v 1))]⟩
abbrev f2:Fn:=⟨3,[],5,[(.aS (.aT (.v 0) 12) (.v 1)),(.aS (.aT (.v 0) 13) (.v 2))]⟩
abbrev f3:Fn:=⟨1,[],3,[(.aS (.aT (.v 0) 14) (.list [])),(.aS (.aT (.v 0) 15) .dict0)]⟩
abbrev f4:Fn:=⟨2,[],5,[(.aS (.v 2) (.meth (.aT (.v 0) 15) 2 [(.v 1),(.lit .none)])),(.ite (.j .is (.v 2) (.lit .none)) [(.aS (.v 2) (.new 1 [(.bi .len [(.aT (.v 0) 14)]),(.v 1)])),(.expr (.meth (.aT (.v 0) 14) 0 [(.v 2)])),(.aS (.idx (.aT (.v 0) 15) (.v 1)) (.v 2))] []),(.ret (.v 2))]⟩
abbrev f5:Fn:=⟨0,[],0,[.fail]⟩
abbrev f7:Fn:=⟨2,[],4,[(.ret (.meth (.aT (.v 0) 15) 2 [(.v 1),(.lit .none)]))]⟩
abbrev S7:Fn:=⟨3,[],5,[(.aS (.aT (.v 0) 16) (.v 1)),(.aS (.aT (.v 0) 17) (.v 2))]⟩
abbrev S6:Fn:=⟨2,[],4,[(.aS (.aT (.v 0) 18) (.v 1))]⟩
abbrev S5:Fn:=⟨2,[],4,[(.aS (.aT (.v 0) 19) (.v 1))]⟩
abbrev SZ:Fn:=⟨2,[],4,[(.aS (.aT (.v 0) 20) (.v 1))]⟩
abbrev SY:Fn:=⟨1,[],3,[(.ret (.new 5 [(.comp (.bi .ord [(.v 1)]) (.one 1) (.v 0) false none)]))]⟩
abbrev SX:Fn:=⟨1,[],3,[(.ret (.meth (.lit (.str [])) 6 [(.comp (.bi .chr [(.v 1)]) (.one 1) (.aT (.v 0) 19) false none)]))]⟩
abbrev SW:Fn:=⟨2,[(.obj 0)],6,[(.aS (.v 2) (.v 1)),(.for (.one 3) (.bi .range [(.o .sub (.bi .len [(.v 0)]) (.lit (.int 1))),(.neg (.lit (.int 1))),(.neg (.lit (.int 1)))]) [(.aS (.v 2) (.new 3 [(.idx (.v 0) (.v 3)),(.v 2)]))]),(.ret (.v 2))]⟩
abbrev SV:Fn:=⟨1,[],3,[(.ret (.h (.v 0) .bool))]⟩
abbrev SU:Fn:=⟨3,[],5,[(.aS (.aT (.v 0) 30) (.v 1)),(.aS (.aT (.v 0) 31) (.v 2))]⟩
abbrev SS:Fn:=⟨1,[],3,[(.ret (.h (.v 0) (.cls 16)))]⟩
abbrev SR:Fn:=⟨1,[],3,[(.ret (.o .sub (.j .gt (.v 0) (.lit (.int 0))) (.j .lt (.v 0) (.lit (.int 0)))))]⟩
abbrev SQ:Fn:=⟨1,[],3,[(.ret (.call 30 [(.aT (.v 0) 30)]))]⟩
abbrev SP:Fn:=⟨1,[],3,[(.ret (.new 16 [(.bi .abs [(.aT (.v 0) 30)]),(.aT (.v 0) 31)]))]⟩
abbrev SO:Fn:=⟨3,[],5,[(.aS (.aT (.v 0) 32) (.v 1)),(.aS (.aT (.v 0) 33) (.v 2))]⟩
abbrev SN:Fn:=⟨2,[],4,[(.aS (.U [(.v 0),(.v 1)]) (.U [(.bi .abs [(.v 0)]),(.bi .abs [(.v 1)])])),(.while (.j .ne (.v 1) (.lit (.int 0))) [(.aS (.U [(.v 0),(.v 1)]) (.U [(.v 1),(.o .mod (.v 0) (.v 1))]))]),(.ret (.v 0))]⟩
abbrev Rb:Fn:=⟨2,[],4,[(.ret (.ife (.j .eq (.v 1) (.lit (.int 1))) (.v 0) (.new 17 [(.v 0),(.v 1)])))]⟩
abbrev Ra:Fn:=⟨2,[],5,[(.ite (.j .lt (.v 1) (.lit (.int 0))) [(.aS (.U [(.v 0),(.v 1)]) (.U [(.o .sub (.lit (.int 0)) (.v 0)),(.o .sub (.lit (.int 0)) (.v 1))]))] []),(.aS (.v 2) (.call 43 [(.v 0),(.v 1)])),(.ret (.call 44 [(.o .fdiv (.v 0) (.v 2)),(.o .fdiv (.v 1) (.v 2))]))]⟩
abbrev Q9:Fn:=⟨2,[],6,[(.ite (.j .eq (.v 0) (.lit (.int 0))) [(.ret (.lit (.str [48])))] []),(.aS (.v 2) (.list [])),(.while (.j .gt (.v 0) (.lit (.int 0))) [(.aS (.U [(.v 0),(.v 3)]) (.bi .divmod [(.v 0),(.v 1)])),(.expr (.meth (.v 2) 0 [(.idx (.lit (.str [48,49,50,51,52,53,54,55,56,57,97,98,99,100,101,102])) (.v 3))]))]),(.ret (.joinrev (.lit (.str [])) (.v 2)))]⟩
abbrev SM:Fn:=⟨2,[],4,[(.ret (.o .add (.ife (.j .lt (.v 0) (.lit (.int 0))) (.lit (.str [45])) (.lit (.str []))) (.call 46 [(.bi .abs [(.v 0)]),(.v 1)])))]⟩
abbrev Q8:Fn:=⟨2,[],4,[(.ite (.h (.v 0) (.cls 17)) [(.ret (.o .add (.o .add (.call 47 [(.aT (.v 0) 32),(.v 1)]) (.lit (.str [47]))) (.call 47 [(.aT (.v 0) 33),(.v 1)])))] []),(.ret (.call 47 [(.v 0),(.v 1)]))]⟩
abbrev Q7:Fn:=⟨2,[],7,[(.ite (.j .eq (.call 39 [(.v 1)]) (.lit (.int 0))) [(.ret (.lit (.str [48,46,48])))] []),(.aS (.U [(.v 2),(.v 3)]) (.call 57 [(.v 0),(.call 40 [(.v 1)])])),(.aS (.U [(.v 4),(.v 3)]) (.call 58 [(.call 46 [(.v 2),(.lit (.int 10))]),(.v 3)])),(.ret (.o .add (.ife (.j .lt (.call 39 [(.v 1)]) (.lit (.int 0))) (.lit (.str [45])) (.lit (.str []))) (.call 59 [(.v 4),(.v 3)])))]⟩
abbrev Q6:Fn:=⟨3,[(.int 10)],7,[(.ite (.not (.call 28 [(.v 1)])) [(.ret (.call 48 [(.v 1),(.v 2)]))] []),(.ite (.j .eq (.v 2) (.lit (.int 10))) [(.ret (.call 60 [(.v 0),(.v 1)]))] []),(.aS (.U [(.v 3),(.v 4)]) (.call 37 [(.v 1)])),(.ret (.o .add (.lit (.str [35,105])) (.call 48 [(.call 45 [(.v 3),(.v 4)]),(.v 2)])))]⟩
abbrev SL:Fn:=⟨2,[],6,[(.aS (.v 2) (.lit (.int 0))),(.for (.one 3) (.v 0) [(.aS (.v 2) (.o .add (.o .mul (.v 2) (.v 1)) (.meth (.lit (.str [48,49,50,51,52,53,54,55,56,57,97,98,99,100,101,102])) 5 [(.v 3)])))]),(.ret (.v 2))]⟩
abbrev SK:Fn:=⟨2,[],4,[(.ret (.bi .all [(.comp (.j .isin (.v 2) (.slice (.lit (.str [48,49,50,51,52,53,54,55,56,57,97,98,99,100,101,102])) none (some (.v 1)))) (.one 2) (.v 0) false none)]))]⟩
abbrev SJ:Fn:=⟨1,[],4,[(.aS (.v 1) (.meth (.v 0) 9 [(.lit (.str [35]))])),(.ret (.U [(.v 1),(.o .sub (.bi .len [(.v 0)]) (.bi .len [(.v 1)]))]))]⟩
abbrev SI:Fn:=⟨4,[],6,[(.aS (.aT (.v 0) 32) (.v 1)),(.aS (.aT (.v 0) 33) (.v 2)),(.aS (.aT (.v 0) 38) (.v 3))]⟩
abbrev SH:Fn:=⟨2,[],6,[(.aS (.U [(.v 2),(.v 3)]) (.call 64 [(.v 0)])),(.ite (.or (.j .eq (.v 2) (.lit (.str []))) (.not (.call 63 [(.v 2),(.v 1)]))) [(.ret (.lit .none))] []),(.ret (.new 19 [(.o .mul (.call 62 [(.v 2),(.v 1)]) (.o .pow (.v 1) (.v 3))),(.lit (.int 1)),(.j .eq (.v 3) (.lit (.int 0)))]))]⟩
abbrev SG:Fn:=⟨2,[],7,[(.aS (.v 2) (.meth (.v 0) 10 [(.lit (.str [47]))])),(.ite (.j .ne (.bi .len [(.v 2)]) (.lit (.int 2))) [(.ret (.lit .none))] []),(.aS (.U [(.v 3),(.v 4)]) (.U [(.call 66 [(.idx (.v 2) (.lit (.int 0))),(.v 1)]),(.call 66 [(.idx (.v 2) (.lit (.int 1))),(.v 1)])])),(.ite (.or (.j .is (.v 3) (.lit .none)) (.or (.j .is (.v 4) (.lit .none)) (.j .eq (.aT (.v 4) 32) (.lit (.int 0))))) [(.ret (.lit .none))] []),(.ret (.new 19 [(.aT (.v 3) 32),(.aT (.v 4) 32),(.and (.aT (.v 3) 38) (.aT (.v 4) 38))]))]⟩
abbrev SF:Fn:=⟨1,[],4,[(.aS (.v 1) (.comp (.v 2) (.many [2,3]) (.v 0) true (some (.j .isin (.v 3) (.lit (.str [101,115,102,100,108])))))),(.ret (.ife (.j .ne (.v 1) (.list [])) (.idx (.v 1) (.lit (.int 0))) (.bi .len [(.v 0)])))]⟩
abbrev Q5:Fn:=⟨2,[],4,[(.ite (.j .isin (.lit (.str [47])) (.v 0)) [(.ret (.call 67 [(.v 0),(.v 1)]))] []),(.ite (.and (.j .eq (.v 1) (.lit (.int 10))) (.or (.j .isin (.lit (.str [46])) (.v 0)) (.j .lt (.call 70 [(.v 0)]) (.bi .len [(.v 0)])))) [(.ret (.call 72 [(.v 0)]))] []),(.ret (.call 66 [(.v 0),(.v 1)]))]⟩
abbrev SE:Fn:=⟨2,[],8,[(.aS (.U [(.v 2),(.v 3),(.v 4)]) (.U [(.lit (.str [])),(.lit (.bool false)),(.lit (.int 0))])),(.while (.j .eq (.slice (.v 0) (some (.v 4)) (some (.o .add (.v 4) (.lit (.int 1))))) (.lit (.str [35]))) [(.aS (.v 5) (.slice (.v 0) (some (.o .add (.v 4) (.lit (.int 1)))) (some (.o .add (.v 4) (.lit (.int 2)))))),(.ite (.and (.j .isin (.v 5) .fail) (.not (.v 3))) [(.aS (.U [(.v 1),(.v 3)]) (.U [(.idx .fail (.v 5)),(.lit (.bool true))]))] [(.ite (.and (.j .isin (.v 5) (.U [(.lit (.str [101])),(.lit (.str [105]))])) (.j .eq (.v 2) (.lit (.str [])))) [(.aS (.v 2) (.v 5))] [(.ret (.lit .none))])]),(.aS (.v 4) (.o .add (.v 4) (.lit (.int 2))))]),(.ret (.U [(.slice (.v 0) (some (.v 4)) none),(.v 1),(.v 2)]))]⟩
abbrev SD:Fn:=⟨4,[],6,[(.ite (.v 3) [(.ret (.call 45 [(.v 1),(.v 2)]))] []),(.try_ [(.ret (.call 36 [(.v 0),(.v 1),(.v 2)]))])]⟩
abbrev SA:Fn:=⟨3,[(.int 10)],11,[(.aS (.v 3) (.call 74 [(.meth (.v 1) 7 []),(.v 2)])),(.ite (.j .is (.v 3) (.lit .none)) [(.ret (.lit .none))] []),(.aS (.U [(.v 4),(.v 2),(.v 5)]) (.v 3)),(.aS (.v 6) (.ife (.j .eq (.slice (.v 4) none (some (.lit (.int 1)))) (.lit (.str [45]))) (.neg (.lit (.int 1))) (.lit (.int 1)))),(.aS (.v 7) (.call 73 [(.ife (.j .isin (.slice (.v 4) none (some (.lit (.int 1)))) (.U [(.lit (.str [43])),(.lit (.str [45]))])) (.slice (.v 4) (some (.lit (.int 1))) none) (.v 4)),(.v 2)])),(.ite (.j .is (.v 7) (.lit .none)) [(.ret (.lit .none))] []),(.aS (.v 8) (.or (.j .eq (.v 5) (.lit (.str [101]))) (.and (.j .eq (.v 5) (.lit (.str []))) (.aT (.v 7) 38)))),(.ret (.call 75 [(.v 0),(.o .mul (.v 6) (.aT (.v 7) 32)),(.aT (.v 7) 33),(.v 8)]))]⟩
abbrev Sz:Fn:=⟨5,[],7,[(.aS (.aT (.v 0) 23) (.v 1)),(.aS (.aT (.v 0) 39) (.v 2)),(.aS (.aT (.v 0) 40) (.v 3)),(.aS (.aT (.v 0) 41) (.v 4))]⟩
abbrev Sy:Fn:=⟨1,[],6,[(.aS (.v 1) (.list [])),(.for (.one 2) (.v 0) [(.aS (.v 3) (.meth (.lit (.str [65,66,67,68,69,70,71,72,73,74,75,76,77,78,79,80,81,82,83,84,85,86,87,88,89,90])) 4 [(.v 2)])),(.expr (.meth (.v 1) 0 [(.ife (.j .lt (.v 3) (.lit (.int 0))) (.v 2) (.idx (.lit (.str [97,98,99,100,101,102,103,104,105,106,107,108,109,110,111,112,113,114,115,116,117,118,119,120,121,122])) (.v 3)))]))]),(.ret (.meth (.lit (.str [])) 6 [(.v 1)]))]⟩
abbrev Sx:Fn:=⟨1,[],3,[(.ret (.or (.j .isin (.v 0) (.lit (.str [97,98,99,100,101,102,103,104,105,106,107,108,109,110,111,112,113,114,115,116,117,118,119,120,121,122]))) (.j .isin (.v 0) (.lit (.str [33,36,37,38,42,47,58,60,61,62,63,94,95,126])))))]⟩
abbrev Sw:Fn:=⟨1,[],4,[(.ite (.j .isin (.v 0) (.lit (.U [(.str [43]),(.str [45]),(.str [46,46,46])]))) [(.ret (.lit (.bool true)))] []),(.ite (.or (.j .eq (.v 0) (.lit (.str []))) (.not (.call 79 [(.idx (.v 0) (.lit (.int 0)))]))) [(.ret (.lit (.bool false)))] []),(.for (.one 1) (.slice (.v 0) (some (.lit (.int 1))) none) [(.ite (.not (.call 80 [(.v 1)])) [(.ret (.lit (.bool false)))] [])]),(.ret (.lit (.bool true)))]⟩
abbrev Sv:Fn:=⟨1,[],3,[(.ret (.or (.j .isin (.idx (.v 0) (.lit (.int 0))) (.lit (.str [48,49,50,51,52,53,54,55,56,57]))) (.j .isin (.idx (.v 0) (.lit (.int 0))) (.lit (.str [43,45,46])))))]⟩
abbrev PX:Fn:=⟨1,[],5,[(.for (.many [1,2]) (.lit (.U [(.U [(.str [115,112,97,99,101]),(.str [32])]),(.U [(.str [110,101,119,108,105,110,101]),(.str [10])])])) [(.ite (.j .eq (.v 2) (.v 0)) [(.ret (.v 1))] [])]),(.ret (.lit .none))]⟩
abbrev Su:Fn:=⟨4,[(.int 53),(.bool true)],6,[(.aS (.aT (.v 0) 13) (.v 1)),(.aS (.aT (.v 0) 42) (.v 2)),(.aS (.aT (.v 0) 26) (.lit (.int 0))),(.aS (.aT (.v 0) 43) (.v 3))]⟩
abbrev Q4:Fn:=⟨1,[],5,[(.while (.j .lt (.aT (.v 0) 26) (.bi .len [(.aT (.v 0) 13)])) [(.aS (.v 1) (.idx (.aT (.v 0) 13) (.aT (.v 0) 26))),(.ite (.j .eq (.v 1) (.lit (.str [59]))) [(.aS (.v 2) (.meth (.aT (.v 0) 13) 4 [(.lit (.str [10])),(.aT (.v 0) 26)])),(.aS (.aT (.v 0) 26) (.ife (.j .lt (.v 2) (.lit (.int 0))) (.bi .len [(.aT (.v 0) 13)]) (.v 2)))] [(.ite (.j .isin (.v 1) (.lit (.str [32,10,9,13,12]))) [(.aS (.aT (.v 0) 26) (.o .add (.aT (.v 0) 26) (.lit (.int 1))))] [.retn])])])]⟩
abbrev JN:Fn:=⟨1,[],6,[(.expr (.meth (.v 0) 61 [])),(.aS (.v 1) (.aT (.v 0) 26)),(.ite (.j .eq (.v 1) (.bi .len [(.aT (.v 0) 13)])) [(.ret (.new 20 [(.lit (.str [101,110,100])),(.lit .none),(.v 1),(.v 1)]))] []),(.aS (.v 2) (.idx (.aT (.v 0) 13) (.v 1))),(.ite (.j .isin (.v 2) (.lit (.str [40,41,39,96]))) [(.ret (.meth (.v 0) 64 [(.v 2),(.lit .none),(.o .add (.v 1) (.lit (.int 1)))]))] []),(.ite (.j .eq (.v 2) (.lit (.str [44]))) [(.aS (.v 3) (.ife (.j .eq (.slice (.aT (.v 0) 13) (some (.o .add (.v 1) (.lit (.int 1)))) (some (.o .add (.v 1) (.lit (.int 2))))) (.lit (.str [64]))) (.lit (.str [44,64])) (.lit (.str [44])))),(.ret (.meth (.v 0) 64 [(.v 3),(.lit .none),(.o .add (.v 1) (.bi .len [(.v 3)]))]))] []),(.ite (.j .eq (.v 2) (.lit (.str [34]))) [(.ret (.meth (.v 0) 67 []))] []),(.ite (.j .eq (.v 2) (.lit (.str [35]))) [(.ret (.meth (.v 0) 68 []))] []),(.ret (.meth (.v 0) 62 []))]⟩
abbrev Ss:Fn:=⟨4,[],7,[(.aS (.v 4) (.aT (.v 0) 26)),(.aS (.aT (.v 0) 26) (.v 3)),(.ret (.new 20 [(.v 1),(.v 2),(.v 4),(.v 3)]))]⟩
abbrev Sr:Fn:=⟨2,[],5,[(.aS (.v 2) (.v 1)),(.while (.and (.j .lt (.v 2) (.bi .len [(.aT (.v 0) 13)])) (.j .notin (.idx (.aT (.v 0) 13) (.v 2)) (.lit (.str [32,10,9,13,12,40,41,34,59])))) [(.ite (.j .isin (.idx (.aT (.v 0) 13) (.v 2)) (.lit (.str [91,93,123,125,124]))) [.fail] []),(.aS (.v 2) (.o .add (.v 2) (.lit (.int 1))))]),(.ret (.v 2))]⟩
abbrev M0:Fn:=⟨1,[],7,[(.aS (.v 1) (.aT (.v 0) 26)),(.aS (.v 2) (.meth (.v 0) 63 [(.v 1)])),(.aS (.v 3) (.slice (.aT (.v 0) 13) (some (.v 1)) (some (.v 2)))),(.ite (.j .eq (.v 3) (.lit (.str [46]))) [(.ret (.meth (.v 0) 64 [(.lit (.str [46])),(.lit .none),(.v 2)]))] []),(.aS (.v 4) (.call 78 [(.v 3)])),(.ite (.call 81 [(.v 4)]) [(.ret (.meth (.v 0) 64 [(.lit (.str [115,121,109,98,111,108])),(.ife (.aT (.v 0) 43) (.v 4) (.v 3)),(.v 2)]))] []),(.ite (.not (.call 82 [(.v 3)])) [.fail] []),(.ret (.meth (.v 0) 64 [(.lit (.str [110,117,109,98,101,114])),(.meth (.v 0) 69 [(.v 3),(.v 1)]),(.v 2)]))]⟩
abbrev Sp:Fn:=⟨3,[],6,[(.aS (.v 3) (.call 76 [(.aT (.v 0) 42),(.v 1),(.lit (.int 10))])),(.ite (.j .is (.v 3) (.lit .none)) [.fail] []),(.ret (.v 3))]⟩
abbrev MZ:Fn:=⟨1,[],6,[(.aS (.v 1) (.aT (.v 0) 26)),(.aS (.v 2) (.call 78 [(.slice (.aT (.v 0) 13) (some (.o .add (.v 1) (.lit (.int 1)))) (some (.o .add (.v 1) (.lit (.int 2)))))])),(.ite (.j .eq (.v 2) (.lit (.str [40]))) [(.ret (.meth (.v 0) 64 [(.lit (.str [35,40])),(.lit .none),(.o .add (.v 1) (.lit (.int 2)))]))] []),(.ite (.or (.j .eq (.v 2) (.lit (.str [116]))) (.j .eq (.v 2) (.lit (.str [102])))) [(.ret (.meth (.v 0) 64 [(.lit (.str [98,111,111,108,101,97,110])),(.j .eq (.v 2) (.lit (.str [116]))),(.o .add (.v 1) (.lit (.int 2)))]))] []),(.ite (.j .eq (.v 2) (.lit (.str [92]))) [(.ret (.meth (.v 0) 70 []))] []),(.ite (.and (.j .ne (.v 2) (.lit (.str []))) (.j .isin (.v 2) (.lit (.str [98,111,100,120,101,105])))) [(.aS (.v 3) (.meth (.v 0) 63 [(.v 1)])),(.ret (.meth (.v 0) 64 [(.lit (.str [110,117,109,98,101,114])),(.meth (.v 0) 69 [(.slice (.aT (.v 0) 13) (some (.v 1)) (some (.v 3))),(.v 1)]),(.v 3)]))] []), .fail]⟩
abbrev So:Fn:=⟨1,[],7,[(.aS (.v 1) (.aT (.v 0) 26)),(.ite (.j .eq (.o .add (.v 1) (.lit (.int 2))) (.bi .len [(.aT (.v 0) 13)])) [.fail] []),(.aS (.v 2) (.o .add (.v 1) (.lit (.int 3)))),(.while (.and (.j .lt (.v 2) (.bi .len [(.aT (.v 0) 13)])) (.j .notin (.idx (.aT (.v 0) 13) (.v 2)) (.lit (.str [32,10,9,13,12,40,41,34,59])))) [(.aS (.v 2) (.o .add (.v 2) (.lit (.int 1))))]),(.aS (.v 3) (.slice (.aT (.v 0) 13) (some (.o .add (.v 1) (.lit (.int 2)))) (some (.v 2)))),(.aS (.v 4) (.ife (.j .eq (.bi .len [(.v 3)]) (.lit (.int 1))) (.v 3) (.call 83 [(.v 3)]))),(.ite (.j .is (.v 4) (.lit .none)) [.fail] []),(.ret (.meth (.v 0) 64 [(.lit (.str [99,104,97,114])),(.new 4 [(.bi .ord [(.v 4)])]),(.v 2)]))]⟩
abbrev Sn:Fn:=⟨1,[],7,[(.aS (.v 1) (.aT (.v 0) 26)),(.aS (.v 2) (.list [])),(.aS (.v 3) (.o .add (.v 1) (.lit (.int 1)))),(.while (.lit (.bool true)) [(.ite (.j .ge (.v 3) (.bi .len [(.aT (.v 0) 13)])) [.fail] []),(.aS (.v 4) (.idx (.aT (.v 0) 13) (.v 3))),(.ite (.j .eq (.v 4) (.lit (.str [34]))) [(.ret (.meth (.v 0) 64 [(.lit (.str [115,116,114,105,110,103])),(.call 18 [(.meth (.lit (.str [])) 6 [(.v 2)])]),(.o .add (.v 3) (.lit (.int 1)))]))] []),(.ite (.j .eq (.v 4) (.lit (.str [92]))) [(.aS (.v 3) (.o .add (.v 3) (.lit (.int 1)))),(.aS (.v 4) (.slice (.aT (.v 0) 13) (some (.v 3)) (some (.o .add (.v 3) (.lit (.int 1)))))),(.ite (.j .eq (.v 4) (.lit (.str []))) [.fail] []),(.ite (.and (.j .ne (.v 4) (.lit (.str [34]))) (.j .ne (.v 4) (.lit (.str [92])))) [.fail] [])] []),(.expr (.meth (.v 2) 0 [(.v 4)])),(.aS (.v 3) (.o .add (.v 3) (.lit (.int 1))))])]⟩
abbrev Sm:Fn:=⟨4,[],6,[(.aS (.aT (.v 0) 23) (.v 1)),(.aS (.aT (.v 0) 40) (.v 2)),(.aS (.aT (.v 0) 20) (.v 3)),(.aS (.aT (.v 0) 44) (.lit (.int 0))),(.aS (.aT (.v 0) 45) (.lit (.obj 0)))]⟩
abbrev Sl:Fn:=⟨5,[(.int 53),(.bool true)],7,[(.aS (.aT (.v 0) 46) (.new 21 [(.v 1),(.v 3),(.v 4)])),(.aS (.aT (.v 0) 47) (.v 2)),(.aS (.aT (.v 0) 48) (.list []))]⟩
abbrev Sj:Fn:=⟨1,[],3,[(.ret (.aT (.aT (.v 0) 46) 26))]⟩
abbrev Q3:Fn:=⟨1,[],5,[(.aS (.aT (.v 0) 48) (.list [])),(.while (.lit (.bool true)) [(.aS (.v 1) (.meth (.aT (.v 0) 46) 71 [])),(.ite (.j .eq (.aT (.v 1) 23) (.lit (.str [101,110,100]))) [(.ite (.j .eq (.aT (.v 0) 48) (.list [])) [(.ret (.lit (.obj 1)))] []), .fail] []),(.ite (.meth (.v 0) 72 [(.v 1)]) [.cont] []),(.ite (.j .eq (.aT (.v 1) 23) (.lit (.str [46]))) [(.expr (.meth (.v 0) 77 [(.v 1)])), .cont] []),(.aS (.v 2) (.ife (.j .eq (.aT (.v 1) 23) (.lit (.str [41]))) (.meth (.v 0) 78 [(.v 1)]) (.meth (.v 0) 79 [(.v 1)]))),(.ite (.meth (.v 0) 73 [(.v 2),(.aT (.v 1) 40)]) [(.ret (.meth (.v 0) 80 [(.v 2)]))] [])])]⟩
abbrev OY:Fn:=⟨2,[],5,[(.aS (.v 2) (.v 1)),(.while (.j .ne (.aT (.v 0) 48) (.list [])) [(.aS (.v 2) (.meth (.v 0) 74 [(.v 2)]))]),(.ret (.v 2))]⟩
abbrev Ip:Fn:=⟨2,[],6,[(.ite (.j .eq (.aT (.v 1) 23) (.lit (.str [40]))) [(.expr (.meth (.aT (.v 0) 48) 0 [(.new 22 [(.lit (.str [108,105,115,116])),(.aT (.v 1) 40),(.list [])])])),(.ret (.lit (.bool true)))] []),(.ite (.j .eq (.aT (.v 1) 23) (.lit (.str [35,40]))) [(.expr (.meth (.aT (.v 0) 48) 0 [(.new 22 [(.lit (.str [118,101,99,116,111,114])),(.aT (.v 1) 40),(.list [])])])),(.ret (.lit (.bool true)))] []),(.for (.many [2,3]) (.lit (.U [(.U [(.str [39]),(.str [113,117,111,116,101])]),(.U [(.str [96]),(.str [113,117,97,115,105,113,117,111,116,101])]),(.U [(.str [44]),(.str [117,110,113,117,111,116,101])]),(.U [(.str [44,64]),(.str [117,110,113,117,111,116,101,45,115,112,108,105,99,105,110,103])])])) [(.ite (.j .eq (.v 2) (.aT (.v 1) 23)) [(.expr (.meth (.aT (.v 0) 48) 0 [(.new 22 [(.lit (.str [113,117,111,116,97,116,105,111,110])),(.aT (.v 1) 40),(.list [(.meth (.aT (.v 0) 47) 75 [(.v 3)])])])])),(.ret (.lit (.bool true)))] [])]),(.ret (.lit (.bool false)))]⟩
abbrev OX:Fn:=⟨2,[],5,[(.ite (.j .eq (.aT (.v 0) 48) (.list [])) [.fail] []),(.aS (.v 2) (.idx (.aT (.v 0) 48) (.neg (.lit (.int 1))))),(.ite (.or (.j .ne (.aT (.v 2) 23) (.lit (.str [108,105,115,116]))) (.or (.j .eq (.aT (.v 2) 20) (.list [])) (.j .ne (.aT (.v 2) 44) (.lit (.int 0))))) [.fail] []),(.aS (.aT (.v 2) 44) (.lit (.int 1)))]⟩
abbrev Fh:Fn:=⟨2,[],5,[(.ite (.j .eq (.aT (.v 0) 48) (.list [])) [.fail] []),(.aS (.v 2) (.idx (.aT (.v 0) 48) (.neg (.lit (.int 1))))),(.ite (.j .eq (.aT (.v 2) 23) (.lit (.str [113,117,111,116,97,116,105,111,110]))) [.fail] []),(.ite (.j .eq (.aT (.v 2) 44) (.lit (.int 1))) [.fail] []),(.expr (.meth (.aT (.v 0) 48) 1 [])),(.ite (.j .eq (.aT (.v 2) 23) (.lit (.str [118,101,99,116,111,114]))) [(.ret (.new 6 [(.aT (.v 2) 20)]))] []),(.ret (.call 20 [(.aT (.v 2) 20),(.aT (.v 2) 45)]))]⟩
abbrev LV:Fn:=⟨2,[],4,[(.ret (.ife (.j .eq (.aT (.v 1) 23) (.lit (.str [115,121,109,98,111,108]))) (.meth (.aT (.v 0) 47) 75 [(.aT (.v 1) 39)]) (.aT (.v 1) 39)))]⟩
abbrev CS:Fn:=⟨3,[],8,[(.aS (.v 3) (.v 1)),(.aS (.v 4) (.bi .len [(.aT (.v 0) 48)])),(.while (.and (.j .gt (.v 4) (.lit (.int 0))) (.j .eq (.aT (.idx (.aT (.v 0) 48) (.o .sub (.v 4) (.lit (.int 1)))) 23) (.lit (.str [113,117,111,116,97,116,105,111,110])))) [(.aS (.v 4) (.o .sub (.v 4) (.lit (.int 1))))]),(.ite (.j .eq (.v 4) (.lit (.int 0))) [(.ret (.lit (.bool true)))] []),(.while (.j .gt (.bi .len [(.aT (.v 0) 48)]) (.v 4)) [(.aS (.v 3) (.meth (.v 0) 74 [(.v 3)]))]),(.aS (.v 5) (.idx (.aT (.v 0) 48) (.neg (.lit (.int 1))))),(.ite (.j .eq (.aT (.v 5) 44) (.lit (.int 2))) [.fail] []),(.ite (.j .eq (.aT (.v 5) 44) (.lit (.int 1))) [(.aS (.aT (.v 5) 45) (.v 3)),(.aS (.aT (.v 5) 44) (.lit (.int 2)))] [(.expr (.meth (.aT (.v 5) 20) 0 [(.v 3)]))]),(.ret (.lit (.bool false)))]⟩
abbrev OW:Fn:=⟨4,[(.int 53),(.bool true)],9,[(.aS (.v 4) (.new 23 [(.v 0),(.v 1),(.v 2),(.v 3)])),(.aS (.v 5) (.list [])),(.while (.lit (.bool true)) [(.aS (.v 6) (.meth (.v 4) 49 [])),(.ite (.j .is (.v 6) (.lit (.obj 1))) [(.ret (.v 5))] []),(.expr (.meth (.v 5) 0 [(.v 6)]))])]⟩
abbrev OV:Fn:=⟨4,[(.int 53),(.bool true)],9,[(.aS (.v 4) (.new 23 [(.v 0),(.v 1),(.v 2),(.v 3)])),(.aS (.v 5) (.meth (.v 4) 49 [])),(.ite (.j .is (.v 5) (.lit (.obj 1))) [.fail] []),(.aS (.v 6) (.meth (.v 4) 26 [])),(.ite (.j .isnot (.meth (.v 4) 49 []) (.lit (.obj 1))) [.fail] []),(.ret (.v 5))]⟩
abbrev Io:Fn:=⟨1,[],4,[(.aS (.v 1) (.call 84 [(.bi .chr [(.v 0)])])),(.ret (.o .add (.lit (.str [35,92])) (.ife (.j .is (.v 1) (.lit .none)) (.bi .chr [(.v 0)]) (.v 1))))]⟩
abbrev OU:Fn:=⟨1,[],5,[(.aS (.v 1) (.list [(.lit (.str [34]))])),(.for (.one 2) (.call 19 [(.v 0)]) [(.ite (.or (.j .eq (.v 2) (.lit (.str [34]))) (.j .eq (.v 2) (.lit (.str [92])))) [(.expr (.meth (.v 1) 0 [(.lit (.str [92]))]))] []),(.expr (.meth (.v 1) 0 [(.v 2)]))]),(.expr (.meth (.v 1) 0 [(.lit (.str [34]))])),(.ret (.meth (.lit (.str [])) 6 [(.v 1)]))]⟩
abbrev OT:Fn:=⟨1,[],3,[(.ite (.h (.v 0) (.cls 0)) [(.ret .fail)] []),(.ite (.h (.v 0) (.cls 10)) [(.ret .fail)] []),(.ite (.h (.v 0) (.cls 8)) [(.ret (.lit (.str [35,60,112,114,111,109,105,115,101,62])))] []),(.ite (.h (.v 0) (.cls 7)) [(.ret (.lit (.str [35,60,98,111,120,62])))] []),(.ret (.ife (.h (.v 0) (.cls 9)) .fail (.lit .none)))]⟩
abbrev OS:Fn:=⟨6,[],8,[(.aS (.aT (.v 0) 50) (.v 1)),(.aS (.aT (.v 0) 42) (.v 2)),(.aS (.aT (.v 0) 51) (.v 3)),(.aS (.aT (.v 0) 27) (.v 4)),(.aS (.aT (.v 0) 47) (.v 5)),(.aS (.aT (.v 0) 52) (.list [])),(.aS (.aT (.v 0) 53) (.lit (.int 0))),(.aS (.aT (.v 0) 54) (.list []))]⟩
abbrev OR:Fn:=⟨2,[],6,[(.expr (.meth (.aT (.v 0) 54) 0 [(.U [(.lit (.int 1)),(.v 1)])])),(.while (.j .ne (.aT (.v 0) 54) (.list [])) [(.aS (.U [(.v 2),(.v 3)]) (.meth (.aT (.v 0) 54) 1 [])),(.ite (.j .eq (.v 2) (.lit (.int 0))) [(.expr (.meth (.v 0) 65 [(.v 3)]))] [(.ite (.j .eq (.v 2) (.lit (.int 1))) [(.expr (.meth (.v 0) 29 [(.v 3)]))] [(.expr (.meth (.v 0) 45 [(.v 3)]))])])]),(.ret (.meth (.lit (.str [])) 6 [(.aT (.v 0) 52)]))]⟩
abbrev OQ:Fn:=⟨2,[],4,[(.expr (.meth (.aT (.v 0) 52) 0 [(.v 1)])),(.aS (.aT (.v 0) 53) (.o .add (.aT (.v 0) 53) (.bi .len [(.v 1)]))),(.ite (.and (.j .isnot (.aT (.v 0) 27) (.lit .none)) (.j .gt (.aT (.v 0) 53) (.aT (.v 0) 27))) [.fail] [])]⟩
abbrev Im:Fn:=⟨2,[],5,[(.ite (.h (.v 1) (.cls 3)) [(.expr (.meth (.v 0) 76 [(.v 1)]))] [(.ite (.h (.v 1) (.cls 6)) [(.expr (.meth (.v 0) 65 [(.lit (.str [35,40]))])),(.expr (.meth (.aT (.v 0) 54) 0 [(.U [(.lit (.int 0)),(.lit (.str [41]))])])),(.for (.one 2) (.bi .range [(.o .sub (.bi .len [(.aT (.v 1) 20)]) (.lit (.int 1))),(.neg (.lit (.int 1))),(.neg (.lit (.int 1)))]) [(.expr (.meth (.aT (.v 0) 54) 0 [(.U [(.lit (.int 1)),(.idx (.aT (.v 1) 20) (.v 2))])])),(.ite (.j .gt (.v 2) (.lit (.int 0))) [(.expr (.meth (.aT (.v 0) 54) 0 [(.U [(.lit (.int 0)),(.lit (.str [32]))])]))] [])])] [(.expr (.meth (.v 0) 65 [(.meth (.v 0) 79 [(.v 1)])]))])])]⟩
abbrev OP:Fn:=⟨2,[],5,[(.aS (.v 2) (.ife (.j .is (.aT (.v 0) 47) (.lit .none)) (.lit .none) (.call 109 [(.v 1),(.aT (.v 0) 47)]))),(.ite (.j .isnot (.v 2) (.lit .none)) [(.expr (.meth (.v 0) 65 [(.v 2)])),(.expr (.meth (.aT (.v 0) 54) 0 [(.U [(.lit (.int 1)),(.aT (.aT (.v 1) 17) 16)])])), .retn] []),(.expr (.meth (.v 0) 65 [(.lit (.str [40]))])),(.expr (.meth (.aT (.v 0) 54) 0 [(.U [(.lit (.int 2)),(.aT (.v 1) 17)])])),(.expr (.meth (.aT (.v 0) 54) 0 [(.U [(.lit (.int 1)),(.aT (.v 1) 16)])]))]⟩
abbrev Il:Fn:=⟨2,[],4,[(.ite (.j .is (.v 1) (.lit (.obj 0))) [(.expr (.meth (.v 0) 65 [(.lit (.str [41]))]))] [(.ite (.h (.v 1) (.cls 3)) [(.expr (.meth (.v 0) 65 [(.lit (.str [32]))])),(.expr (.meth (.aT (.v 0) 54) 0 [(.U [(.lit (.int 2)),(.aT (.v 1) 17)])])),(.expr (.meth (.aT (.v 0) 54) 0 [(.U [(.lit (.int 1)),(.aT (.v 1) 16)])]))] [(.expr (.meth (.v 0) 65 [(.lit (.str [32,46,32]))])),(.expr (.meth (.aT (.v 0) 54) 0 [(.U [(.lit (.int 0)),(.lit (.str [41]))])])),(.expr (.meth (.aT (.v 0) 54) 0 [(.U [(.lit (.int 1)),(.v 1)])]))])])]⟩
abbrev Al:Fn:=⟨2,[],5,[(.ite (.call 21 [(.v 1)]) [(.ret (.ife (.v 1) (.lit (.str [35,116])) (.lit (.str [35,102]))))] []),(.ite (.j .is (.v 1) (.lit (.obj 0))) [(.ret (.lit (.str [40,41])))] []),(.ite (.h (.v 1) (.cls 1)) [(.ret (.aT (.v 1) 13))] []),(.ite (.h (.v 1) (.cls 5)) [(.ret (.ife (.aT (.v 0) 50) (.call 111 [(.v 1)]) (.call 19 [(.v 1)])))] []),(.ite (.h (.v 1) (.cls 4)) [(.ret (.ife (.aT (.v 0) 50) (.call 110 [(.aT (.v 1) 18)]) (.bi .chr [(.aT (.v 1) 18)])))] []),(.aS (.v 2) (.call 112 [(.v 1)])),(.ret (.ife (.j .is (.v 2) (.lit .none)) (.call 61 [(.aT (.v 0) 42),(.v 1),(.aT (.v 0) 51)]) (.v 2)))]⟩
abbrev OO:Fn:=⟨5,[(.int 53),(.int 10), .none, .none],7,[(.ret (.meth (.new 24 [(.lit (.bool true)),(.v 1),(.v 2),(.v 3),(.v 4)]) 55 [(.v 0)]))]⟩
abbrev ON:Fn:=⟨4,[(.int 53),(.int 10), .none],6,[(.ret (.meth (.new 24 [(.lit (.bool false)),(.v 1),(.v 2),(.v 3),(.lit .none)]) 55 [(.v 0)]))]⟩
abbrev OM:Fn:=⟨2,[],6,[(.aS (.v 2) (.idx (.v 0) (.lit (.int 1)))),(.aS (.idx (.v 0) (.lit (.int 1))) (.o .add (.v 2) (.lit (.int 1)))),(.aS (.v 3) (.ife (.j .lt (.v 2) (.bi .len [(.idx (.v 0) (.lit (.int 0)))])) (.idx (.idx (.v 0) (.lit (.int 0))) (.v 2)) (.o .fdiv (.idx (.v 0) (.lit (.int 2))) (.lit (.int 512))))),(.aS (.idx (.v 0) (.lit (.int 2))) (.o .mod (.o .add (.o .add (.o .add (.o .mul (.idx (.v 0) (.lit (.int 2))) (.lit (.int 69069))) (.o .mod (.v 3) (.lit (.int 1000003)))) (.o .mul (.lit (.int 11)) (.v 2))) (.lit (.int 1))) (.lit (.int 4294967296)))),(.ret (.o .mod (.v 3) (.v 1)))]⟩
abbrev LU:Fn:=⟨2,[],4,[(.ret (.idx (.v 1) (.call 122 [(.v 0),(.bi .len [(.v 1)])])))]⟩
abbrev OL:Fn:=⟨2,[],4,[(.ret (.list [(.comp (.bi .abs [(.v 2)]) (.one 2) (.slice (.v 0) none (some (.v 1))) false none),(.lit (.int 0)),(.o .add (.lit (.int 977)) (.bi .len [(.comp (.v 2) (.one 2) (.slice (.v 0) none (some (.v 1))) false (some (.j .lt (.v 2) (.lit (.int 0)))))]))]))]⟩
abbrev qW:Fn:=⟨2,[],5,[(.ite (.h (.v 0) .bool) [(.ret (.U [(.lit (.str [98,111,111,108,101,97,110])),(.bi .int [(.v 0)])]))] []),(.ite (.h (.v 0) .int) [(.ret (.U [(.lit (.str [119,104,111,108,101])),(.v 0)]))] []),(.ite (.j .is (.v 0) (.lit (.obj 0))) [(.ret (.U [(.lit (.str [101,109,112,116,121])),(.lit (.int 0))]))] []),(.ite (.h (.v 0) (.cls 17)) [(.ret (.U [(.lit (.str [114,97,116,105,111])),(.U [(.aT (.v 0) 32),(.aT (.v 0) 33)])]))] []),(.ite (.h (.v 0) (.cls 16)) [(.ret (.U [(.lit (.str [114,101,97,108])),(.U [(.aT (.v 0) 30),(.aT (.v 0) 31)])]))] []),(.ite (.h (.v 0) (.cls 1)) [(.ret (.U [(.ife (.j .is (.meth (.v 1) 4 [(.aT (.v 0) 13)]) (.v 0)) (.lit (.str [115,121,109,98,111,108])) (.lit (.str [115,116,114,97,110,103,101]))),(.aT (.v 0) 13)]))] []),(.ite (.h (.v 0) (.cls 4)) [(.ret (.U [(.lit (.str [99,104,97,114])),(.aT (.v 0) 18)]))] []),(.ite (.h (.v 0) (.cls 5)) [(.ret (.U [(.lit (.str [115,116,114,105,110,103])),(.bi .tuple [(.aT (.v 0) 19)])]))] []),(.ite (.h (.v 0) (.cls 6)) [(.ret (.U [(.lit (.str [118,101,99,116,111,114])),(.bi .tuple [(.comp (.call 125 [(.v 3),(.v 1)]) (.one 3) (.aT (.v 0) 20) false none)])]))] []),(.ite (.not (.h (.v 0) (.cls 3))) [(.ret (.U [(.lit (.str [111,116,104,101,114])),(.lit (.int 0))]))] []),(.aS (.v 2) (.list [])),(.while (.h (.v 0) (.cls 3)) [(.expr (.meth (.v 2) 0 [(.call 125 [(.aT (.v 0) 16),(.v 1)])])),(.aS (.v 0) (.aT (.v 0) 17))]),(.ret (.U [(.lit (.str [99,104,97,105,110])),(.U [(.bi .tuple [(.v 2)]),(.call 125 [(.v 0),(.v 1)])])]))]⟩
abbrev OK:Fn:=⟨1,[],3,[(.ret (.o .add (.lit (.str [35,92])) (.dget [(32,[115,112,97,99,101]),(10,[110,101,119,108,105,110,101])] (.v 0) (.bi .chr [(.v 0)]))))]⟩
abbrev Fg:Fn:=⟨2,[],16,[(.aS (.v 2) (.call 122 [(.v 0),(.lit (.int 8))])),(.ite (.j .eq (.v 2) (.lit (.int 0))) [(.aS (.v 3) (.j .eq (.call 122 [(.v 0),(.lit (.int 2))]) (.lit (.int 1)))),(.ret (.list [(.v 3),(.ife (.v 3) (.lit (.str [35,116])) (.lit (.str [35,102]))),(.ife (.v 3) (.lit (.str [35,116])) (.lit (.str [35,102])))]))] []),(.ite (.j .eq (.v 2) (.lit (.int 1))) [(.aS (.v 4) (.o .sub (.call 122 [(.v 0),(.lit (.int 2000))]) (.lit (.int 1000)))),(.ret (.list [(.v 4),(.bi .str [(.v 4)]),(.bi .str [(.v 4)])]))] []),(.ite (.j .eq (.v 2) (.lit (.int 2))) [(.aS (.v 5) (.o .add (.lit (.int 2)) (.call 122 [(.v 0),(.lit (.int 8))]))),(.aS (.v 6) (.o .add (.o .mul (.v 5) (.o .sub (.call 122 [(.v 0),(.lit (.int 20))]) (.lit (.int 10)))) (.lit (.int 1)))),(.ret (.list [(.new 17 [(.v 6),(.v 5)]),(.o .add (.o .add (.bi .str [(.v 6)]) (.lit (.str [47]))) (.bi .str [(.v 5)])),(.o .add (.o .add (.bi .str [(.v 6)]) (.lit (.str [47]))) (.bi .str [(.v 5)]))]))] []),(.ite (.j .eq (.v 2) (.lit (.int 3))) [(.aS (.U [(.v 7),(.v 8),(.v 9)]) (.call 123 [(.v 0),(.lit (.a [(.U [(.int 1),(.int (-1)),(.str [48,46,53])]),(.U [(.int 3),(.int (-1)),(.str [49,46,53])]),(.U [(.int (-5)),(.int (-2)),(.str [45,49,46,50,53])]),(.U [(.int 0),(.int 0),(.str [48,46,48])]),(.U [(.int 25),(.int 2),(.str [49,48,48,46,48])]),(.U [(.int 1),(.int (-4)),(.str [48,46,48,54,50,53])])]))])),(.ret (.list [(.new 16 [(.v 7),(.v 8)]),(.v 9),(.v 9)]))] []),(.ite (.j .eq (.v 2) (.lit (.int 4))) [(.aS (.v 10) (.call 123 [(.v 0),(.lit (.a [(.str [97]),(.str [98,50]),(.str [108,105,115,116,45,62,118,101,99,116,111,114]),(.str [43]),(.str [45]),(.str [46,46,46]),(.str [33,120]),(.str [97,46,98]),(.str [60,61,63]),(.str [113,64]),(.str [113,117,111,116,101]),(.str [101,53]),(.str [120,45,49,43]),(.str [117,110,113,117,111,116,101])]))])),(.ret (.list [(.meth (.v 1) 75 [(.v 10)]),(.v 10),(.v 10)]))] []),(.ite (.j .eq (.v 2) (.lit (.int 5))) [(.aS (.v 11) (.call 123 [(.v 0),(.o .add (.bi .list [(.bi .range [(.lit (.int 33)),(.lit (.int 95))])]) (.lit (.a [(.int 34),(.int 92),(.int 10),(.int 32),(.int 40),(.int 41),(.int 59),(.int 39),(.int 35),(.int 97),(.int 65),(.int 9),(.int 955),(.int 124)])))])),(.ret (.list [(.new 4 [(.v 11)]),(.call 126 [(.v 11)]),(.bi .chr [(.v 11)])]))] []),(.ite (.j .eq (.v 2) (.lit (.int 6))) [(.aS (.v 12) (.comp (.call 123 [(.v 0),(.lit (.a [(.int 34),(.int 92),(.int 10),(.int 32),(.int 40),(.int 41),(.int 59),(.int 39),(.int 35),(.int 97),(.int 65),(.int 9),(.int 955),(.int 124)]))]) (.one 14) (.bi .range [(.call 122 [(.v 0),(.lit (.int 5))])]) false none)),(.aS (.v 13) (.meth (.lit (.str [])) 6 [(.comp (.bi .chr [(.v 14)]) (.one 14) (.v 12) false none)])),(.ret (.list [(.new 5 [(.v 12)]),(.o .add (.esc [34] (.v 13) 92 [92,92] 34 [92,34]) (.lit (.str [34]))),(.v 13)]))] []),(.ret (.list [(.lit (.obj 0)),(.lit (.str [40,41])),(.lit (.str [40,41]))]))]⟩
abbrev OJ:Fn:=⟨2,[],6,[(.aS (.v 2) (.list [(.new 3 [(.idx (.v 0) (.lit (.int 0))),(.idx (.v 1) (.lit (.int 0)))])])),(.for (.one 3) (.U [(.lit (.int 1)),(.lit (.int 2))]) [(.ite (.j .is (.idx (.v 1) (.lit (.int 0))) (.lit (.obj 0))) [(.expr (.meth (.v 2) 0 [(.o .add (.o .add (.lit (.str [40])) (.idx (.v 0) (.v 3))) (.lit (.str [41])))]))] [(.ite (.h (.idx (.v 1) (.lit (.int 0))) (.cls 3)) [(.expr (.meth (.v 2) 0 [(.o .add (.o .add (.o .add (.lit (.str [40])) (.idx (.v 0) (.v 3))) (.lit (.str [32]))) (.slice (.idx (.v 1) (.v 3)) (some (.lit (.int 1))) none))]))] [(.expr (.meth (.v 2) 0 [(.o .add (.o .add (.o .add (.o .add (.lit (.str [40])) (.idx (.v 0) (.v 3))) (.lit (.str [32,46,32]))) (.idx (.v 1) (.v 3))) (.lit (.str [41])))]))])])]),(.ret (.v 2))]⟩
abbrev CQ:Fn:=⟨3,[],8,[(.aS (.v 3) (.call 122 [(.v 0),(.lit (.int 6))])),(.aS (.U [(.v 4),(.v 5)]) (.U [(.call 123 [(.v 0),(.v 1)]),(.call 123 [(.v 0),(.v 1)])])),(.ite (.or (.j .eq (.v 3) (.lit (.int 0))) (.j .gt (.o .add (.bi .len [(.idx (.v 4) (.lit (.int 1)))]) (.bi .len [(.idx (.v 5) (.lit (.int 1)))])) (.lit (.int 44)))) [(.ret (.call 127 [(.v 0),(.v 2)]))] []),(.ite (.j .eq (.v 3) (.lit (.int 1))) [(.ret (.list [(.new 6 [(.list [(.idx (.v 4) (.lit (.int 0))),(.idx (.v 5) (.lit (.int 0)))])]),(.o .add (.o .add (.o .add (.o .add (.lit (.str [35,40])) (.idx (.v 4) (.lit (.int 1)))) (.lit (.str [32]))) (.idx (.v 5) (.lit (.int 1)))) (.lit (.str [41]))),(.o .add (.o .add (.o .add (.o .add (.lit (.str [35,40])) (.idx (.v 4) (.lit (.int 2)))) (.lit (.str [32]))) (.idx (.v 5) (.lit (.int 2)))) (.lit (.str [41])))]))] []),(.ite (.j .eq (.v 3) (.lit (.int 2))) [(.ret (.call 128 [(.v 4),(.call 128 [(.v 5),(.list [(.lit (.obj 0)),(.lit (.str [40,41])),(.lit (.str [40,41]))])])]))] []),(.ret (.call 128 [(.v 4),(.v 5)]))]⟩
abbrev Ff:Fn:=⟨1,[],14,[(.aS (.U [(.v 1),(.v 2)]) (.U [(.call 124 [(.v 0),(.lit (.int 30))]),(.new 2 [])])),(.aS (.v 3) (.list [(.call 127 [(.v 1),(.v 2)]),(.call 127 [(.v 1),(.v 2)]),(.list [(.lit (.obj 0)),(.lit (.str [40,41])),(.lit (.str [40,41]))])])),(.for (.one 4) (.bi .range [(.o .add (.lit (.int 2)) (.o .fdiv (.bi .min [(.bi .len [(.v 0)]),(.lit (.int 20))]) (.lit (.int 4))))]) [(.expr (.meth (.v 3) 0 [(.call 129 [(.v 1),(.v 3),(.v 2)])]))]),(.for (.many [5,6,7]) (.list [(.idx (.v 3) (.lit (.int 0))),(.idx (.v 3) (.neg (.lit (.int 1))))]) [(.ite (.or (.j .ne (.call 120 [(.v 5)]) (.v 6)) (.j .ne (.call 121 [(.v 5)]) (.v 7))) [(.ret (.lit (.bool false)))] []),(.aS (.v 8) (.new 2 [])),(.aS (.v 9) (.call 108 [(.v 6),(.v 8)])),(.ite (.or (.j .ne (.call 125 [(.v 9),(.v 8)]) (.call 125 [(.v 5),(.v 2)])) (.j .ne (.call 120 [(.v 9)]) (.v 6))) [(.ret (.lit (.bool false)))] [])]),(.aS (.v 10) (.comp (.call 123 [(.v 1),(.v 3)]) (.one 12) (.bi .range [(.o .add (.lit (.int 1)) (.o .fdiv (.bi .min [(.bi .len [(.v 0)]),(.lit (.int 16))]) (.lit (.int 8))))]) false none)),(.aS (.v 11) (.comp (.o .add (.idx (.v 12) (.lit (.int 1))) (.call 123 [(.v 1),(.list [(.lit (.str [32])),(.lit (.str [10])),(.lit (.str [32,59,120,10])),(.lit (.str [9]))])])) (.one 12) (.v 10) false none)),(.aS (.v 8) (.new 2 [])),(.aS (.v 9) (.call 107 [(.o .add (.o .add (.lit (.str [32])) (.meth (.lit (.str [])) 6 [(.v 11)])) (.lit (.str [59,41]))),(.v 8)])),(.ret (.j .eq (.comp (.call 125 [(.v 12),(.v 8)]) (.one 12) (.v 9) false none) (.comp (.call 125 [(.idx (.v 12) (.lit (.int 0))),(.v 2)]) (.one 12) (.v 10) false none)))]⟩
abbrev Ia:List Fn:= [f0,f1,f2,f3,f4,f5,⟨0,[],0,[.fail]⟩,f7,⟨0,[],0,[.fail]⟩,⟨0,[],0,[.fail]⟩,S7,S6,S5,SZ,⟨0,[],0,[.fail]⟩,⟨0,[],0,[.fail]⟩,⟨0,[],0,[.fail]⟩,⟨0,[],0,[.fail]⟩,SY,SX,SW,SV,⟨0,[],0,[.fail]⟩,⟨0,[],0,[.fail]⟩,⟨0,[],0,[.fail]⟩,⟨0,[],0,[.fail]⟩,⟨0,[],0,[.fail]⟩,SU,SS,⟨1,[],3,[(.ret (.meth (.bi .abs [(.v 0)]) 3 []))]⟩,SR,⟨1,[],3,[(.ret (.o .sub (.meth (.o .band (.v 0) (.o .sub (.lit (.int 0)) (.v 0))) 3 []) (.lit (.int 1))))]⟩,⟨2,[],6,[(.ite (.j .eq (.v 0) (.lit (.int 0))) [(.ret (.new 16 [(.lit (.int 0)),(.lit (.int 0))]))] []),(.aS (.U [(.v 2),(.v 3)]) (.U [(.call 31 [(.v 0)]),(.o .add (.call 29 [(.v 0)]) (.v 1))])),(.ite (.j .gt (.bi .abs [(.v 3)]) (.lit (.int 65536))) [.fail] []),(.ret (.new 16 [(.o .shr (.v 0) (.v 2)),(.o .add (.v 1) (.v 2))]))]⟩,⟨2,[],7,[(.aS (.U [(.v 2),(.v 3),(.v 4)]) (.U [(.o .shr (.v 0) (.v 1)),(.o .band (.v 0) (.o .sub (.o .shl (.lit (.int 1)) (.v 1)) (.lit (.int 1)))),(.o .shl (.lit (.int 1)) (.o .sub (.v 1) (.lit (.int 1))))])),(.ite (.or (.j .gt (.v 3) (.v 4)) (.and (.j .eq (.v 3) (.v 4)) (.j .eq (.o .band (.v 2) (.lit (.int 1))) (.lit (.int 1))))) [(.ret (.o .add (.v 2) (.lit (.int 1))))] []),(.ret (.v 2))]⟩,⟨3,[],6,[(.aS (.v 3) (.o .sub (.call 29 [(.v 1)]) (.v 0))),(.ite (.j .le (.v 3) (.lit (.int 0))) [(.ret (.call 32 [(.v 1),(.v 2)]))] []),(.ret (.call 32 [(.o .mul (.call 30 [(.v 1)]) (.call 33 [(.bi .abs [(.v 1)]),(.v 3)])),(.o .add (.v 2) (.v 3))]))]⟩,⟨2,[],4,[(.ret (.o .add (.o .mul (.lit (.int 2)) (.v 0)) (.ife (.v 1) (.lit (.int 1)) (.lit (.int 0)))))]⟩,⟨3,[],8,[(.ite (.j .eq (.v 1) (.lit (.int 0))) [(.ret (.new 16 [(.lit (.int 0)),(.lit (.int 0))]))] []),(.aS (.v 3) (.o .sub (.o .add (.o .add (.v 0) (.lit (.int 2))) (.call 29 [(.v 2)])) (.call 29 [(.v 1)]))),(.ite (.j .ge (.v 3) (.lit (.int 0))) [(.aS (.U [(.v 4),(.v 5)]) (.bi .divmod [(.o .shl (.bi .abs [(.v 1)]) (.v 3)),(.v 2)]))] [(.aS (.U [(.v 4),(.v 5)]) (.bi .divmod [(.bi .abs [(.v 1)]),(.o .shl (.v 2) (.o .sub (.lit (.int 0)) (.v 3)))]))]),(.ret (.call 34 [(.v 0),(.o .mul (.call 30 [(.v 1)]) (.call 35 [(.v 4),(.j .ne (.v 5) (.lit (.int 0)))])),(.o .sub (.o .sub (.lit (.int 0)) (.v 3)) (.lit (.int 1)))]))]⟩,⟨0,[],0,[.fail]⟩,⟨1,[],3,[(.ret (.o .add (.call 29 [(.aT (.v 0) 30)]) (.aT (.v 0) 31)))]⟩,SQ,SP,⟨2,[],5,[(.aS (.v 2) (.o .sub (.v 0) (.call 29 [(.aT (.v 1) 30)]))),(.ret (.U [(.o .shl (.bi .abs [(.aT (.v 1) 30)]) (.v 2)),(.o .sub (.aT (.v 1) 31) (.v 2))]))]⟩,SO,SN,Rb,Ra,Q9,SM,Q8,⟨3,[],8,[(.aS (.U [(.v 3),(.v 4)]) (.call 41 [(.v 1),(.v 2)])),(.aS (.v 5) (.j .eq (.v 3) (.o .shl (.lit (.int 1)) (.o .sub (.v 1) (.lit (.int 1)))))),(.aS (.aT (.v 0) 34) (.o .mul (.lit (.int 4)) (.v 3))),(.aS (.aT (.v 0) 35) (.o .sub (.aT (.v 0) 34) (.ife (.v 5) (.lit (.int 1)) (.lit (.int 2))))),(.aS (.aT (.v 0) 36) (.o .add (.aT (.v 0) 34) (.lit (.int 2)))),(.aS (.aT (.v 0) 37) (.j .eq (.o .mod (.v 3) (.lit (.int 2))) (.lit (.int 0)))),(.aS (.U [(.aT (.v 0) 32),(.aT (.v 0) 33)]) (.ife (.j .ge (.v 4) (.lit (.int 2))) (.U [(.o .shl (.lit (.int 1)) (.o .sub (.v 4) (.lit (.int 2)))),(.lit (.int 1))]) (.U [(.lit (.int 1)),(.o .shl (.lit (.int 1)) (.o .sub (.lit (.int 2)) (.v 4)))])))]⟩,⟨3,[],5,[(.ite (.j .ge (.v 2) (.lit (.int 0))) [(.ret (.U [(.o .mul (.v 1) (.aT (.v 0) 32)),(.o .mul (.aT (.v 0) 33) (.o .pow (.lit (.int 10)) (.v 2)))]))] []),(.ret (.U [(.o .mul (.o .mul (.v 1) (.aT (.v 0) 32)) (.o .pow (.lit (.int 10)) (.o .sub (.lit (.int 0)) (.v 2)))),(.aT (.v 0) 33)]))]⟩,⟨2,[],8,[(.aS (.U [(.v 2),(.v 3)]) (.meth (.v 0) 57 [(.aT (.v 0) 35),(.v 1)])),(.aS (.U [(.v 4),(.v 5)]) (.bi .divmod [(.v 2),(.v 3)])),(.ret (.ife (.and (.j .eq (.v 5) (.lit (.int 0))) (.aT (.v 0) 37)) (.v 4) (.o .add (.v 4) (.lit (.int 1)))))]⟩,⟨2,[],8,[(.aS (.U [(.v 2),(.v 3)]) (.meth (.v 0) 57 [(.aT (.v 0) 36),(.v 1)])),(.aS (.U [(.v 4),(.v 5)]) (.bi .divmod [(.v 2),(.v 3)])),(.ret (.ife (.or (.j .gt (.v 5) (.lit (.int 0))) (.aT (.v 0) 37)) (.v 4) (.o .sub (.v 4) (.lit (.int 1)))))]⟩,⟨3,[],7,[(.aS (.U [(.v 3),(.v 4)]) (.meth (.v 0) 57 [(.aT (.v 0) 34),(.v 2)])),(.ret (.U [(.bi .abs [(.o .sub (.o .mul (.v 1) (.v 4)) (.v 3))]),(.v 4)]))]⟩,⟨2,[],8,[(.aS (.U [(.v 2),(.v 3)]) (.meth (.v 0) 57 [(.aT (.v 0) 34),(.v 1)])),(.aS (.U [(.v 4),(.v 5)]) (.bi .divmod [(.v 2),(.v 3)])),(.ite (.or (.j .gt (.o .mul (.lit (.int 2)) (.v 5)) (.v 3)) (.and (.j .eq (.o .mul (.lit (.int 2)) (.v 5)) (.v 3)) (.j .eq (.o .mod (.v 4) (.lit (.int 2))) (.lit (.int 1))))) [(.ret (.o .add (.v 4) (.lit (.int 1))))] []),(.ret (.v 4))]⟩,⟨3,[],12,[(.aS (.U [(.v 3),(.v 4)]) (.U [(.meth (.v 0) 58 [(.o .sub (.v 2) (.lit (.int 1)))]),(.bi .min [(.meth (.v 0) 60 [(.o .sub (.v 2) (.lit (.int 1)))]),(.lit (.int 9))])])),(.ite (.j .lt (.v 4) (.v 3)) [(.ret (.U [(.v 1),(.v 2)]))] []),(.aS (.v 5) (.bi .min [(.bi .max [(.meth (.v 0) 66 [(.o .sub (.v 2) (.lit (.int 1)))]),(.v 3)]),(.v 4)])),(.aS (.U [(.v 6),(.v 7)]) (.U [(.meth (.v 0) 59 [(.v 1),(.v 2)]),(.meth (.v 0) 59 [(.v 5),(.o .sub (.v 2) (.lit (.int 1)))])])),(.aS (.U [(.v 8),(.v 9)]) (.U [(.o .mul (.o .mul (.lit (.int 10)) (.idx (.v 6) (.lit (.int 0)))) (.idx (.v 7) (.lit (.int 1)))),(.o .mul (.idx (.v 7) (.lit (.int 0))) (.idx (.v 6) (.lit (.int 1))))])),(.ite (.or (.j .lt (.v 9) (.v 8)) (.and (.j .eq (.v 9) (.v 8)) (.and (.j .eq (.o .mod (.v 1) (.lit (.int 2))) (.lit (.int 1))) (.j .eq (.o .mod (.v 5) (.lit (.int 2))) (.lit (.int 0)))))) [(.ret (.U [(.v 5),(.o .sub (.v 2) (.lit (.int 1)))]))] []),(.ret (.U [(.v 1),(.v 2)]))]⟩,⟨1,[],4,[(.aS (.v 1) (.o .add (.call 38 [(.v 0)]) (.lit (.int 1)))),(.ret (.o .add (.o .fdiv (.o .mul (.v 1) (.lit (.int 30103))) (.lit (.int 100000))) (.lit (.int 2))))]⟩,⟨2,[],9,[(.aS (.U [(.v 2),(.v 3)]) (.U [(.new 18 [(.v 0),(.v 1)]),(.call 56 [(.v 1)])])),(.aS (.U [(.v 4),(.v 5)]) (.U [(.meth (.v 2) 58 [(.v 3)]),(.meth (.v 2) 60 [(.v 3)])])),(.while (.j .lt (.v 5) (.bi .max [(.lit (.int 1)),(.v 4)])) [(.aS (.v 3) (.o .sub (.v 3) (.lit (.int 1)))),(.aS (.U [(.v 4),(.v 5)]) (.U [(.meth (.v 2) 58 [(.v 3)]),(.meth (.v 2) 60 [(.v 3)])]))]),(.aS (.v 6) (.bi .min [(.bi .max [(.meth (.v 2) 66 [(.v 3)]),(.v 4)]),(.v 5)])),(.ret (.ife (.j .eq (.v 4) (.lit (.int 1))) (.call 55 [(.v 2),(.v 6),(.v 3)]) (.U [(.v 6),(.v 3)])))]⟩,⟨2,[],5,[(.aS (.v 2) (.meth (.v 0) 9 [(.lit (.str [48]))])),(.ret (.U [(.v 2),(.o .sub (.o .add (.v 1) (.bi .len [(.v 0)])) (.bi .len [(.v 2)]))]))]⟩,⟨2,[],6,[(.aS (.v 2) (.o .add (.bi .len [(.v 0)]) (.v 1))),(.ite (.chain (.lit (.int 0)) .lt (.v 2) .le (.lit (.int 21))) [(.ite (.j .ge (.v 1) (.lit (.int 0))) [(.ret (.o .add (.o .add (.v 0) (.o .mul (.lit (.str [48])) (.v 1))) (.lit (.str [46,48]))))] []),(.ret (.o .add (.o .add (.slice (.v 0) none (some (.v 2))) (.lit (.str [46]))) (.slice (.v 0) (some (.v 2)) none)))] []),(.ite (.chain (.o .sub (.lit (.int 0)) (.lit (.int 6))) .le (.v 2) .le (.lit (.int 0))) [(.ret (.o .add (.o .add (.lit (.str [48,46])) (.o .mul (.lit (.str [48])) (.o .sub (.lit (.int 0)) (.v 2)))) (.v 0)))] []),(.aS (.v 3) (.ife (.j .gt (.bi .len [(.v 0)]) (.lit (.int 1))) (.o .add (.lit (.str [46])) (.slice (.v 0) (some (.lit (.int 1))) none)) (.lit (.str [])))),(.ret (.o .add (.o .add (.o .add (.idx (.v 0) (.lit (.int 0))) (.v 3)) (.lit (.str [101]))) (.call 47 [(.o .sub (.v 2) (.lit (.int 1))),(.lit (.int 10))])))]⟩,Q7,Q6,SL,SK,SJ,SI,SH,SG,⟨2,[],7,[(.aS (.U [(.v 2),(.v 3)]) (.call 64 [(.v 0)])),(.aS (.v 4) (.idx (.call 64 [(.v 1)]) (.lit (.int 0)))),(.ite (.or (.not (.call 63 [(.v 2),(.lit (.int 10))])) (.or (.not (.call 63 [(.v 4),(.lit (.int 10))])) (.j .eq (.o .add (.v 2) (.v 4)) (.lit (.str []))))) [(.ret (.lit (.bool false)))] []),(.ret (.or (.j .eq (.v 3) (.lit (.int 0))) (.and (.j .ne (.v 2) (.lit (.str []))) (.j .eq (.v 4) (.lit (.str []))))))]⟩,⟨1,[],4,[(.aS (.v 1) (.ife (.j .isin (.slice (.v 0) none (some (.lit (.int 1)))) (.U [(.lit (.str [43])),(.lit (.str [45]))])) (.slice (.v 0) (some (.lit (.int 1))) none) (.v 0))),(.ite (.or (.not (.chain (.lit (.int 1)) .le (.bi .len [(.v 1)]) .le (.lit (.int 5)))) (.not (.call 63 [(.v 1),(.lit (.int 10))]))) [(.ret (.lit .none))] []),(.ret (.o .mul (.ife (.j .eq (.slice (.v 0) none (some (.lit (.int 1)))) (.lit (.str [45]))) (.neg (.lit (.int 1))) (.lit (.int 1))) (.call 62 [(.v 1),(.lit (.int 10))])))]⟩,SF,⟨1,[],6,[(.aS (.v 1) (.meth (.v 0) 10 [(.lit (.str [46]))])),(.ite (.j .eq (.bi .len [(.v 1)]) (.lit (.int 1))) [(.aS (.v 2) (.call 66 [(.v 0),(.lit (.int 10))])),(.ret (.ife (.j .is (.v 2) (.lit .none)) (.lit .none) (.new 19 [(.aT (.v 2) 32),(.lit (.int 1)),(.lit (.bool false))])))] []),(.ite (.or (.j .ne (.bi .len [(.v 1)]) (.lit (.int 2))) (.not (.call 68 [(.idx (.v 1) (.lit (.int 0))),(.idx (.v 1) (.lit (.int 1)))]))) [(.ret (.lit .none))] []),(.aS (.v 3) (.meth (.o .add (.idx (.v 1) (.lit (.int 0))) (.idx (.v 1) (.lit (.int 1)))) 8 [(.lit (.str [35])),(.lit (.str [48]))])),(.ret (.new 19 [(.call 62 [(.v 3),(.lit (.int 10))]),(.o .pow (.lit (.int 10)) (.bi .len [(.idx (.v 1) (.lit (.int 1)))])),(.lit (.bool false))]))]⟩,⟨1,[],6,[(.aS (.v 1) (.call 70 [(.v 0)])),(.aS (.v 2) (.call 71 [(.slice (.v 0) none (some (.v 1)))])),(.ite (.or (.j .is (.v 2) (.lit .none)) (.j .eq (.v 1) (.bi .len [(.v 0)]))) [(.ret (.v 2))] []),(.aS (.v 3) (.call 69 [(.slice (.v 0) (some (.o .add (.v 1) (.lit (.int 1)))) none)])),(.ite (.j .is (.v 3) (.lit .none)) [(.ret (.lit .none))] []),(.ite (.j .ge (.v 3) (.lit (.int 0))) [(.ret (.new 19 [(.o .mul (.aT (.v 2) 32) (.o .pow (.lit (.int 10)) (.v 3))),(.aT (.v 2) 33),(.lit (.bool false))]))] []),(.ret (.new 19 [(.aT (.v 2) 32),(.o .mul (.aT (.v 2) 33) (.o .pow (.lit (.int 10)) (.o .sub (.lit (.int 0)) (.v 3)))),(.lit (.bool false))]))]⟩,Q5,SE,SD,SA,Sz,Sy,Sx,⟨1,[],3,[(.ret (.or (.call 79 [(.v 0)]) (.or (.j .isin (.v 0) (.lit (.str [48,49,50,51,52,53,54,55,56,57]))) (.j .isin (.v 0) (.lit (.str [43,45,46,64]))))))]⟩,Sw,Sv,⟨1,[],5,[(.for (.many [1,2]) (.lit (.U [(.U [(.str [115,112,97,99,101]),(.str [32])]),(.U [(.str [110,101,119,108,105,110,101]),(.str [10])])])) [(.ite (.j .eq (.v 1) (.call 78 [(.v 0)])) [(.ret (.v 2))] [])]),(.ret (.lit .none))]⟩,PX,Su,Q4,⟨1,[],3,[(.expr (.call 0 [(.lit (.int 4))]))]⟩,JN,Ss,Sr,M0,Sp,MZ,So,Sn,Sm,Sl,Sj,Q3,OY,⟨2,[],5,[(.aS (.v 2) (.meth (.aT (.v 0) 48) 1 [])),(.ret (.call 20 [(.list [(.idx (.aT (.v 2) 20) (.lit (.int 0))),(.v 1)])]))]⟩,Ip,OX,Fh,LV,CS,OW,OV,⟨2,[],6,[(.ite (.or (.not (.h (.v 0) (.cls 3))) (.or (.not (.h (.aT (.v 0) 17) (.cls 3))) (.j .isnot (.aT (.aT (.v 0) 17) 17) (.lit (.obj 0))))) [(.ret (.lit .none))] []),(.for (.many [2,3]) (.lit (.U [(.U [(.str [39]),(.str [113,117,111,116,101])]),(.U [(.str [96]),(.str [113,117,97,115,105,113,117,111,116,101])]),(.U [(.str [44]),(.str [117,110,113,117,111,116,101])]),(.U [(.str [44,64]),(.str [117,110,113,117,111,116,101,45,115,112,108,105,99,105,110,103])])])) [(.ite (.j .is (.aT (.v 0) 16) (.meth (.v 1) 75 [(.v 3)])) [(.ret (.v 2))] [])]),(.ret (.lit .none))]⟩,Io,OU,OT,OS,OR,OQ,Im,OP,Il,Al,OO,ON,OM,LU,OL,qW,OK,Fg,OJ,CQ,Ff]
abbrev Ri:List Cls:= [
 ⟨1,[],[11]⟩,
 ⟨2,[],[12,13]⟩,
 ⟨3,[(75,4),(81,5),(82,6),(4,7),(83,8),(84,9)],[14,15]⟩,
 ⟨10,[],[16,17]⟩,
 ⟨11,[],[18]⟩,
 ⟨12,[],[19]⟩,
 ⟨13,[],[20]⟩,
 ⟨14,[],[21]⟩,
 ⟨15,[],[22,21]⟩,
 ⟨16,[],[12]⟩,
 ⟨17,[],[11]⟩,
 ⟨22,[],[23,24]⟩,
 ⟨23,[],[25,26]⟩,
 ⟨24,[],[25,26]⟩,
 ⟨25,[],[27]⟩,
 ⟨26,[],[28,26,29]⟩,
 ⟨27,[],[30,31]⟩,
 ⟨42,[],[32,33]⟩,
 ⟨49,[(57,50),(58,51),(60,52),(59,53),(66,54)],[34,35,36,37,32,33]⟩,
 ⟨65,[],[32,33,38]⟩,
 ⟨77,[],[23,39,40,41]⟩,
 ⟨85,[(61,86),(85,87),(71,88),(64,89),(63,90),(62,91),(69,92),(68,93),(70,94),(67,95)],[13,42,26,43]⟩,
 ⟨96,[],[23,40,20,44,45]⟩,
 ⟨97,[(26,98),(49,99),(80,100),(74,101),(72,102),(77,103),(78,104),(79,105),(73,106)],[46,47,48]⟩,
 ⟨113,[(55,114),(65,115),(29,116),(76,117),(45,118),(79,119)],[50,42,51,27,47,52,53,54]⟩]
abbrev Qo:List Nat:= [0,0]
abbrev P:Pg:=⟨Ia,Ri,Qo⟩
end
end Mine.Internal
end
section
open PySem PySem.Calls PyProof.Rows PySem.W
namespace Mine.Internal
mutual
abbrev Di:List Str:= [aa "append",aa "pop",aa "get",aa "bit_length",aa "find",aa "index",aa "join",aa "lower",aa "replace",aa "rstrip",aa "split",aa "title",aa "number",aa "text",aa "rows",aa "by_text",aa "car",aa "cdr",aa "code",aa "codes",aa "things",aa "content",aa "is_done",aa "word",aa "irritants",aa "reason",aa "place",aa "limit",aa "name",aa "datum",aa "mantissa",aa "exponent",aa "top",aa "bottom",aa "here",aa "low",aa "high",aa "has_ends",aa "is_exact",aa "value",aa "start",aa "end",aa "precision",aa "is_folded",aa "state",aa "tail",aa "lexer",aa "table",aa "frames",aa "read",aa "is_written",aa "radix",aa "pieces",aa "length",aa "waiting",aa "told",aa "__init__",aa "over_power",aa "least_multiple",aa "gap",aa "greatest_multiple",aa "skip",aa "word_token",aa "word_end",aa "found",aa "put",aa "nearest_multiple",aa "string",aa "sharp",aa "number_in",aa "sign_token",aa "token",aa "opens",aa "delivered",aa "quoted",aa "symbol",aa "pair",aa "dot",aa "closed",aa "atom",aa "last",aa "fresh",aa "by_number",aa "is_interned",aa "size",aa "peek"]
abbrev tH:List (Str×Gv):= [
 (aa "_wall", .fn 0),
 (aa "make_text", .fn 18),
 (aa "python_text", .fn 19),
 (aa "list_of", .fn 20),
 (aa "is_boolean", .fn 21),
 (aa "is_real", .fn 28),
 (aa "size_of", .fn 29),
 (aa "sign_of_whole", .fn 30),
 (aa "zeros_below", .fn 31),
 (aa "lean", .fn 32),
 (aa "nearest_shift", .fn 33),
 (aa "shifted_round", .fn 34),
 (aa "with_sticky", .fn 35),
 (aa "rounded", .fn 36),
 (aa "exact_parts", .fn 37),
 (aa "place_of", .fn 38),
 (aa "sign_of", .fn 39),
 (aa "magnitude", .fn 40),
 (aa "full_mantissa", .fn 41),
 (aa "gcd_of", .fn 43),
 (aa "made", .fn 44),
 (aa "ratio_of", .fn 45),
 (aa "figures_of", .fn 46),
 (aa "whole_text", .fn 47),
 (aa "exact_text", .fn 48),
 (aa "with_lower_ones", .fn 55),
 (aa "tens_above", .fn 56),
 (aa "shortest_figures", .fn 57),
 (aa "without_noughts", .fn 58),
 (aa "laid_out", .fn 59),
 (aa "decimal_text", .fn 60),
 (aa "number_text", .fn 61),
 (aa "worth_of", .fn 62),
 (aa "are_figures", .fn 63),
 (aa "parted", .fn 64),
 (aa "read_whole", .fn 66),
 (aa "read_ratio", .fn 67),
 (aa "are_decimal_parts", .fn 68),
 (aa "read_exponent", .fn 69),
 (aa "mark_place", .fn 70),
 (aa "read_mantissa", .fn 71),
 (aa "read_decimal", .fn 72),
 (aa "read_unsigned", .fn 73),
 (aa "split_prefixes", .fn 74),
 (aa "finished", .fn 75),
 (aa "parse_number", .fn 76),
 (aa "folded", .fn 78),
 (aa "is_first", .fn 79),
 (aa "is_later", .fn 80),
 (aa "is_identifier", .fn 81),
 (aa "is_numberlike", .fn 82),
 (aa "sign_named", .fn 83),
 (aa "name_of_sign", .fn 84),
 (aa "read_all", .fn 107),
 (aa "read_one", .fn 108),
 (aa "quotation_sign", .fn 109),
 (aa "written_sign", .fn 110),
 (aa "written_string", .fn 111),
 (aa "other_text", .fn 112),
 (aa "write_text", .fn 120),
 (aa "display_text", .fn 121),
 (aa "_law_draw", .fn 122),
 (aa "_law_pick", .fn 123),
 (aa "_law_deck", .fn 124),
 (aa "_law_shape", .fn 125),
 (aa "_law_sign_text", .fn 126),
 (aa "_law_atom", .fn 127),
 (aa "_law_pair", .fn 128),
 (aa "_law_next", .fn 129),
 (aa "law", .fn 130),
 (aa "Special", .cls 0),
 (aa "Symbol", .cls 1),
 (aa "SymbolTable", .cls 2),
 (aa "Pair", .cls 3),
 (aa "Char", .cls 4),
 (aa "Text", .cls 5),
 (aa "Vector", .cls 6),
 (aa "Box", .cls 7),
 (aa "Promise", .cls 8),
 (aa "PortRef", .cls 9),
 (aa "Procedure", .cls 10),
 (aa "Real", .cls 16),
 (aa "Ratio", .cls 17),
 (aa "Surroundings", .cls 18),
 (aa "Reading", .cls 19),
 (aa "Token", .cls 20),
 (aa "Lexer", .cls 21),
 (aa "Frame", .cls 22),
 (aa "Reader", .cls 23),
 (aa "Printer", .cls 24),
 (aa "EMPTY", .val (.obj 0)),
 (aa "EOF", .val (.obj 1)),
 (aa "REACH", .val (.int 65536)),
 (aa "FIGURES_numtext", .val (.str [48,49,50,51,52,53,54,55,56,57,97,98,99,100,101,102])),
 (aa "MARKS", .val (.str [101,115,102,100,108])),
 (aa "MOST_EXPONENT_FIGURES", .val (.int 5)),
 (aa "MOST_BEFORE_POINT", .val (.int 21)),
 (aa "MOST_NOUGHTS_BEHIND_POINT", .val (.int 6)),
 (aa "BLANKS", .val (.str [32,10,9,13,12])),
 (aa "DELIMITERS", .val (.str [32,10,9,13,12,40,41,34,59])),
 (aa "RESERVED", .val (.str [91,93,123,125,124])),
 (aa "SMALL", .val (.str [97,98,99,100,101,102,103,104,105,106,107,108,109,110,111,112,113,114,115,116,117,118,119,120,121,122])),
 (aa "CAPITALS", .val (.str [65,66,67,68,69,70,71,72,73,74,75,76,77,78,79,80,81,82,83,84,85,86,87,88,89,90])),
 (aa "FIGURES_lexer", .val (.str [48,49,50,51,52,53,54,55,56,57])),
 (aa "FIRST_SIGNS", .val (.str [33,36,37,38,42,47,58,60,61,62,63,94,95,126])),
 (aa "LATER_SIGNS", .val (.str [43,45,46,64])),
 (aa "PECULIAR", .val (.U [(.str [43]),(.str [45]),(.str [46,46,46])])),
 (aa "PREFIXES", .val (.str [98,111,100,120,101,105])),
 (aa "SIGN_NAMES", .val (.U [(.U [(.str [115,112,97,99,101]),(.str [32])]),(.U [(.str [110,101,119,108,105,110,101]),(.str [10])])])),
 (aa "QUOTATIONS", .val (.U [(.U [(.str [39]),(.str [113,117,111,116,101])]),(.U [(.str [96]),(.str [113,117,97,115,105,113,117,111,116,101])]),(.U [(.str [44]),(.str [117,110,113,117,111,116,101])]),(.U [(.str [44,64]),(.str [117,110,113,117,111,116,101,45,115,112,108,105,99,105,110,103])])])),
 (aa "NOT_DOTTED", .val (.int 0)),
 (aa "BEHIND_DOT", .val (.int 1)),
 (aa "HAS_TAIL", .val (.int 2)),
 (aa "PIECE", .val (.int 0)),
 (aa "DATUM", .val (.int 1)),
 (aa "TAIL", .val (.int 2)),
 (aa "_law_reals", .val (.a [(.U [(.int 1),(.int (-1)),(.str [48,46,53])]),(.U [(.int 3),(.int (-1)),(.str [49,46,53])]),(.U [(.int (-5)),(.int (-2)),(.str [45,49,46,50,53])]),(.U [(.int 0),(.int 0),(.str [48,46,48])]),(.U [(.int 25),(.int 2),(.str [49,48,48,46,48])]),(.U [(.int 1),(.int (-4)),(.str [48,46,48,54,50,53])])])),
 (aa "_law_names", .val (.a [(.str [97]),(.str [98,50]),(.str [108,105,115,116,45,62,118,101,99,116,111,114]),(.str [43]),(.str [45]),(.str [46,46,46]),(.str [33,120]),(.str [97,46,98]),(.str [60,61,63]),(.str [113,64]),(.str [113,117,111,116,101]),(.str [101,53]),(.str [120,45,49,43]),(.str [117,110,113,117,111,116,101])])),
 (aa "_law_codes", .val (.a [(.int 34),(.int 92),(.int 10),(.int 32),(.int 40),(.int 41),(.int 59),(.int 39),(.int 35),(.int 97),(.int 65),(.int 9),(.int 955),(.int 124)])),
 (aa "abs", .bi .abs),
 (aa "chr", .bi .chr),
 (aa "ord", .bi .ord),
 (aa "len", .bi .len),
 (aa "divmod", .bi .divmod),
 (aa "max", .bi .max),
 (aa "min", .bi .min),
 (aa "range", .bi .range),
 (aa "all", .bi .all),
 (aa "list", .bi .list),
 (aa "str", .bi .str),
 (aa "tuple", .bi .tuple),
 (aa "reversed", .rev),
 (aa "enumerate", .enum),
 (aa "isinstance", .isinst),
 (aa "bool", .ty .bool),
 (aa "int", .bi .int)]
abbrev TQ:List (Option Str×Str):= [
 (none,aa "_wall"),
 (some (aa "Special"),aa "__init__"),
 (some (aa "Symbol"),aa "__init__"),
 (some (aa "SymbolTable"),aa "__init__"),
 (some (aa "SymbolTable"),aa "symbol"),
 (some (aa "SymbolTable"),aa "fresh"),
 (some (aa "SymbolTable"),aa "by_number"),
 (some (aa "SymbolTable"),aa "find"),
 (some (aa "SymbolTable"),aa "is_interned"),
 (some (aa "SymbolTable"),aa "size"),
 (some (aa "Pair"),aa "__init__"),
 (some (aa "Char"),aa "__init__"),
 (some (aa "Text"),aa "__init__"),
 (some (aa "Vector"),aa "__init__"),
 (some (aa "Box"),aa "__init__"),
 (some (aa "Promise"),aa "__init__"),
 (some (aa "PortRef"),aa "__init__"),
 (some (aa "Procedure"),aa "__init__"),
 (none,aa "make_text"),
 (none,aa "python_text"),
 (none,aa "list_of"),
 (none,aa "is_boolean"),
 (some (aa "SchemeError"),aa "__init__"),
 (some (aa "LexError"),aa "__init__"),
 (some (aa "ReadError"),aa "__init__"),
 (some (aa "TooLong"),aa "__init__"),
 (some (aa "OutOfRange"),aa "__init__"),
 (some (aa "Real"),aa "__init__"),
 (none,aa "is_real"),
 (none,aa "size_of"),
 (none,aa "sign_of_whole"),
 (none,aa "zeros_below"),
 (none,aa "lean"),
 (none,aa "nearest_shift"),
 (none,aa "shifted_round"),
 (none,aa "with_sticky"),
 (none,aa "rounded"),
 (none,aa "exact_parts"),
 (none,aa "place_of"),
 (none,aa "sign_of"),
 (none,aa "magnitude"),
 (none,aa "full_mantissa"),
 (some (aa "Ratio"),aa "__init__"),
 (none,aa "gcd_of"),
 (none,aa "made"),
 (none,aa "ratio_of"),
 (none,aa "figures_of"),
 (none,aa "whole_text"),
 (none,aa "exact_text"),
 (some (aa "Surroundings"),aa "__init__"),
 (some (aa "Surroundings"),aa "over_power"),
 (some (aa "Surroundings"),aa "least_multiple"),
 (some (aa "Surroundings"),aa "greatest_multiple"),
 (some (aa "Surroundings"),aa "gap"),
 (some (aa "Surroundings"),aa "nearest_multiple"),
 (none,aa "with_lower_ones"),
 (none,aa "tens_above"),
 (none,aa "shortest_figures"),
 (none,aa "without_noughts"),
 (none,aa "laid_out"),
 (none,aa "decimal_text"),
 (none,aa "number_text"),
 (none,aa "worth_of"),
 (none,aa "are_figures"),
 (none,aa "parted"),
 (some (aa "Reading"),aa "__init__"),
 (none,aa "read_whole"),
 (none,aa "read_ratio"),
 (none,aa "are_decimal_parts"),
 (none,aa "read_exponent"),
 (none,aa "mark_place"),
 (none,aa "read_mantissa"),
 (none,aa "read_decimal"),
 (none,aa "read_unsigned"),
 (none,aa "split_prefixes"),
 (none,aa "finished"),
 (none,aa "parse_number"),
 (some (aa "Token"),aa "__init__"),
 (none,aa "folded"),
 (none,aa "is_first"),
 (none,aa "is_later"),
 (none,aa "is_identifier"),
 (none,aa "is_numberlike"),
 (none,aa "sign_named"),
 (none,aa "name_of_sign"),
 (some (aa "Lexer"),aa "__init__"),
 (some (aa "Lexer"),aa "skip"),
 (some (aa "Lexer"),aa "peek"),
 (some (aa "Lexer"),aa "token"),
 (some (aa "Lexer"),aa "found"),
 (some (aa "Lexer"),aa "word_end"),
 (some (aa "Lexer"),aa "word_token"),
 (some (aa "Lexer"),aa "number_in"),
 (some (aa "Lexer"),aa "sharp"),
 (some (aa "Lexer"),aa "sign_token"),
 (some (aa "Lexer"),aa "string"),
 (some (aa "Frame"),aa "__init__"),
 (some (aa "Reader"),aa "__init__"),
 (some (aa "Reader"),aa "place"),
 (some (aa "Reader"),aa "read"),
 (some (aa "Reader"),aa "last"),
 (some (aa "Reader"),aa "quoted"),
 (some (aa "Reader"),aa "opens"),
 (some (aa "Reader"),aa "dot"),
 (some (aa "Reader"),aa "closed"),
 (some (aa "Reader"),aa "atom"),
 (some (aa "Reader"),aa "delivered"),
 (none,aa "read_all"),
 (none,aa "read_one"),
 (none,aa "quotation_sign"),
 (none,aa "written_sign"),
 (none,aa "written_string"),
 (none,aa "other_text"),
 (some (aa "Printer"),aa "__init__"),
 (some (aa "Printer"),aa "told"),
 (some (aa "Printer"),aa "put"),
 (some (aa "Printer"),aa "datum"),
 (some (aa "Printer"),aa "pair"),
 (some (aa "Printer"),aa "tail"),
 (some (aa "Printer"),aa "atom"),
 (none,aa "write_text"),
 (none,aa "display_text"),
 (none,aa "_law_draw"),
 (none,aa "_law_pick"),
 (none,aa "_law_deck"),
 (none,aa "_law_shape"),
 (none,aa "_law_sign_text"),
 (none,aa "_law_atom"),
 (none,aa "_law_pair"),
 (none,aa "_law_next"),
 (none,aa "law")]
abbrev TV:List Str:= [aa "Special",aa "Symbol",aa "SymbolTable",aa "Pair",aa "Char",aa "Text",aa "Vector",aa "Box",aa "Promise",aa "PortRef",aa "Procedure",aa "SchemeError",aa "LexError",aa "ReadError",aa "TooLong",aa "OutOfRange",aa "Real",aa "Ratio",aa "Surroundings",aa "Reading",aa "Token",aa "Lexer",aa "Frame",aa "Reader",aa "Printer"]
abbrev pC:List Nat:= [0,5,6,8,9,14,15,16,17,22,23,24,25,26,37]
abbrev lG:Option (Option Value)->Addr
 | some (some (.ref a))=>a
 | _=>0
abbrev CN(K:Frag):List Addr:=TQ.map fun(c,n)=>match c with
 | none=>lG (nsIn K mainGlobals n)
 | some c=>lG (findIn K (.ref (lG (nsIn K mainGlobals c))) n)
abbrev yI(K:Frag):List Addr:=TV.map λn=>lG (nsIn K mainGlobals n)
abbrev Cr(K:Frag):List Addr:= [lG (nsIn K mainGlobals "EMPTY"),lG (nsIn K mainGlobals "EOF")]
abbrev mJ(K:Frag)(i:Nat):Addr:=(CN K).getD i 0
abbrev jS(K:Frag)(i:Nat):Addr:=(yI K).getD i 0
abbrev jn:List Nat:= [0,1,2,3,4,5,6,7,8,9,10,16,17,18,19,20,21,22,23,24]
abbrev HW(K:Frag)(x:Str)(v:Value):Bool:=nsIn K mainGlobals x==some (some v) || (nsIn K mainGlobals x==some none && bootBuiltins x==some v && x !="__name__")
abbrev B5:Value->Option Addr
 | .ref a=>some a
 | _=>none
abbrev Qg:Value->Option String
 | .type t=>some t
 | _=>none
abbrev Jf:Value->Option Bool
 | .bool b=>some b
 | _=>none
abbrev Nl:Value->Option Int
 | .int i _=>some i
 | _=>none
abbrev Nk:Value->Option Str
 | .str s _=>some s
 | _=>none
abbrev Ds:Value->Bool
 | .none=>true
 | _=>false
abbrev Fo:Data->Bool
 | .plain=>true
 | _=>false
abbrev JU:Data->Option (Array DictEntry×Nat)
 | .dict es n=>some (es,n)
 | _=>none
abbrev L6:Data->Option (Array Value×Nat)
 | .seq its n=>some (its,n)
 | _=>none
abbrev JT:Data->Option FuncData
 | .func fd=>some fd
 | _=>none
abbrev JM:FuncBody->Option (List Stmt)
 | .stmts b=>some b
 | _=>none
abbrev uU(K:Frag)(C:Addr)(a:Addr):Bool:=((K.lookup a).bind λo=>o.dict.bind λdx=>G2 (B5 o.cls==some C && (Fo o.data && o.slots== #[])) ((K.lookup dx).bind λp=>G2 (Qg p.cls==some "dict" && (p.dict.isNone && p.slots== #[])) (JU p.data))).isSome
abbrev FO(f:AV->Value->Bool):List AV->List Value->Bool
 | [],[]=>true
 | x::r,u::s=>f x u && FO f r s
 | _,_=>false
abbrev zC(K:Frag)(t:String)(f:List Value->Bool)(a:Addr):Bool:=((K.lookup a).bind λo=>G2 (Qg o.cls==some t) (L6 o.data)).any λs=>f s.1.toList
abbrev P7(K:Frag)(oa:List Addr):Nat->AV->Value->Bool
 | 0,_,_=>false
 | n+1,v,u=>match v with
  | .none=>Ds u
  | .bool b=>Jf u==some b
  | .int i=>Nl u==some i
  | .str s=>Nk u==some (aO s)
  | .obj i=>(B5 u).any λa=>oa[i]? ==some a
  | .U vs=>(B5 u).any (zC K "tuple" (FO (P7 K oa n) vs))
  | .a vs=>(B5 u).any (zC K "list" (FO (P7 K oa n) vs))
  | _=>false
abbrev QO(K:Frag)(x:Str):Gv->Bool
 | .fn i=>cg i 131 && HW K x (.ref (mJ K i)) && keepIn K (.ref (mJ K i))
 | .cls i=>jn.contains i && HW K x (.ref (jS K i)) && keepIn K (.ref (jS K i))
 | .bi b=>HW K x (vg b)
 | .rev=>HW K x (.type "reversed")
 | .enum=>HW K x (.type "enumerate")
 | .isinst=>HW K x (.builtin "isinstance")
 | .ty .bool=>HW K x (.type "bool")
 | .ty .int=>HW K x (.type "int")
 | .ty (.cls _)=>false
 | .val v=>((nsIn K mainGlobals x).bind id).any (P7 K (Cr K) 6 v)
abbrev wz(K:Frag)(c:Nat):Bool:=IF K (jS K c) && (match P.clss[c]? with
 | some Cc=>(Cc.flds.all λf=>match Di[f]? with | some n=>Ai K (jS K c) n | none=>true) &&
  (Cc.meths.all fun(m,f)=>cg f 131 && (match Di[m]? with | some n=>Bs K (jS K c) n (mJ K f) | none=>true)) &&
  makesIn K (jS K c) && findIn K (.ref (jS K c)) "__init__"==some (some (.ref (mJ K Cc.init))) && typeIn K (.ref (mJ K Cc.init))==some (.type "function") && cg Cc.init 131
 | none=>true)
abbrev PN(K:Frag):Bool:=(uU K (jS K 0) (lG (nsIn K mainGlobals "EMPTY")) && uU K (jS K 0) (lG (nsIn K mainGlobals "EOF")) && lG (nsIn K mainGlobals "EMPTY") !=lG (nsIn K mainGlobals "EOF")) &&
 (K.lookup sysModules).isSome && jn.all (wz K) && (jn.all λc=>jn.all λc'=>aX c c' || kin_not K (jS K c) (jS K c')) &&
 (specialIn K (.builtin "object.__class__") "__get__"==some (some (.builtin "getset_descriptor.__get__")) && takesIn K (.builtin "object.__class__")==some true) &&
 tH.all λx=>QO K x.1 x.2
abbrev O4(K:Frag)(fd:FuncData):Option (List AV):=cond (Ds fd.defaults) (some []) ((B5 fd.defaults).bind λT=>(K.lookup T).bind λo=>(L6 o.data).bind λs=>oW (Cr K) s.1.toList)
abbrev LM(K:Frag)(fd:FuncData)(dfl:List AV):Bool:=dn dfl.length fd.params.args.length && fd.closure.isEmpty && fd.globals==mainGlobals && fd.builtins==builtinsNs && codeIn K fd.code fd.qualname && kh fd.params && rY (fd.params.args.map (·.arg)) fd.scope
abbrev yt(K:Frag)(a:Addr):Option Fn:=(K.lookup a).bind λo=>(JT o.data).bind λfd=>(JM fd.body).bind λbody=>(O4 K fd).bind λdfl=>cond (LM K fd dfl) (some (Av tH Di fd.params dfl fd.scope body)) none
abbrev xF(K:Frag):List (Option Fn):=(cS 131).map λi=>cond (pC.contains i) none (yt K (mJ K i))
abbrev PY:Nat->List Fn->List (Option Fn)
 | _,[]=> []
 | i,f::r=>cond (pC.contains i) none (some f)::PY (i+1) r
abbrev Am:List (Option Fn):=PY 0 Ia
abbrev rB:Nat->List Obj->Frag
 | _,[]=> []
 | i,o::r=>cond o.alive ((i,o)::rB (i+1) r) (rB (i+1) r)
abbrev jo(h:Heap):Frag:=rB 0 h.objs.toList
def Ah{a:Addr}{o:Obj}(l:List Obj):∀i:Nat,(rB i l).lookup a=some o->∃j,a=i+j/\l[j]? =some o/\o.alive=true:=by
 induction l with
 | nil=>exact λzz h=>nomatch h
 | cons x r ih=>
  intro i h;have up:(rB (i+1) r).lookup a=some o->∃j,a=i+j/\(x::r)[j]? =some o/\o.alive=true:=λh=>by
   refine dt (ih (i+1) h) λj e q z=>?_
   exact eH (j+1) (e.trans ((f9 i 1 j).trans (congrArg (i+ ·) (dq 1 j)))) q z
  have h:(cond x.alive ((i,x)::rB (i+1) r) (rB (i+1) r)).lookup a=some o:=h;cases f:x.alive with
  | false=>rw[f]at h;exact up h
  | true=>
   rw[f]at h;have h:(match a==i with | true=>some x | false=>(rB (i+1) r).lookup a)=some o:=h;cases q:(a==i)with
   | true=>
    rw[q]at h;have h:=af h;subst h;exact eH 0 (beq_iff_eq.mp q) rfl f
   | false=>rw[q]at h;exact up h
def E3(h:Heap):(jo h).In h:=λa o e=>by
 refine dt (Ah _ 0 e) λj e1 q al=>?_;rw[ji]at e1;subst e1;exact(Heap.get?_eq_some h _ o).mpr ⟨by erw [<- Array.getElem?_toList];exact q,al⟩
abbrev Sd(K:Frag):Bool:=(uU K (jS K 0) (lG (nsIn K mainGlobals "EMPTY")) && uU K (jS K 0) (lG (nsIn K mainGlobals "EOF")) && lG (nsIn K mainGlobals "EMPTY") !=lG (nsIn K mainGlobals "EOF")) &&
 (K.lookup sysModules).isSome && (jn.all λc=>jn.all λc'=>aX c c' || kin_not K (jS K c) (jS K c')) &&
 (specialIn K (.builtin "object.__class__") "__get__"==some (some (.builtin "getset_descriptor.__get__")) && takesIn K (.builtin "object.__class__")==some true)
abbrev PM(K:Frag)(l:List Nat):Bool:=l.all (wz K)
abbrev Ju(K:Frag)(l:List (Str×Gv)):Bool:=l.all λx=>QO K x.1 x.2
abbrev QQ:List (Str×Gv):=tH.drop 34
abbrev PW:List (Str×Gv):=QQ.drop 34
def r6{α:Type}(p:α->Bool)(n:Nat)(l:List α)(h:(l.take n).all p=true)(h':(l.drop n).all p=true):l.all p=true:=by
 erw [<- iS n l,List.all_append,h,h'];rfl
def NT{K:Frag}(a:Sd K=true)(c:PM K (jn.take 10)=true)(c':PM K (jn.drop 10)=true)(g0:Ju K (tH.take 34)=true)(g1:Ju K (QQ.take 34)=true)(g2:Ju K (PW.take 34)=true)(g3:Ju K (PW.drop 34)=true):PN K=true:=by
 have a1:=ae.mp a;have a2:=ae.mp a1.1;exact ae.mpr ⟨ae.mpr ⟨ae.mpr ⟨ae.mpr ⟨a2.1,r6 _ 10 _ c c'⟩,a2.2⟩,a1.2⟩,r6 _ 34 _ g0 (r6 _ 34 _ g1 (r6 _ 34 _ g2 g3))⟩
abbrev mR(K:Frag)(a n:Nat):List (Option Fn):=(fM a n).map λi=>cond (pC.contains i) none (yt K (mJ K i))
abbrev jA(a n:Nat):List (Option Fn):=PY a ((Ia.drop a).take n)
def Lc{K:Frag}(h0:mR K 0 15=jA 0 15)(h1:mR K 15 15=jA 15 15)(h2:mR K 30 15=jA 30 15)(h3:mR K 45 15=jA 45 15)(h4:mR K 60 15=jA 60 15)(h5:mR K 75 15=jA 75 15)(h6:mR K 90 15=jA 90 15)(h7:mR K 105 15=jA 105 15)(h8:mR K 120 11=jA 120 11):xF K=Am:=by
 have r:cS 131=fM 0 15++(fM 15 15++(fM 30 15++(fM 45 15++(fM 60 15++(fM 75 15++(fM 90 15++(fM 105 15++(fM 120 11)))))))):=by kernel_rfl
 have e:Am=jA 0 15++(jA 15 15++(jA 30 15++(jA 45 15++(jA 60 15++(jA 75 15++(jA 90 15++(jA 105 15++(jA 120 11)))))))):=by kernel_rfl
 erw [e,<- h0,<- h1,<- h2,<- h3,<- h4,<- h5,<- h6,<- h7,<- h8]
 unfold xF
 erw [r,bc,bc,bc,bc,bc,bc,bc,bc]
 rfl
abbrev hkSays:World->Heap->Prop:=λzz h=> ∃K:Frag,K.In h/\PN K=true/\xF K=Am
def ho{r:OpenRow}{q:Program}{loose:List Str}{Xt:Shared->Bool}{XP:(Str->Option Value)->Heap->Prop}{d:DefRec}{kwd:List (Str×PySem.Expr)}{N:Nat}
  (left:LeftO r.prog q loose Xt (λs=>((((Sd (jo s.heap),PM (jo s.heap) (jn.take 10)),(PM (jo s.heap) (jn.drop 10),Ju (jo s.heap) (tH.take 34))),((Ju (jo s.heap) (QQ.take 34),Ju (jo s.heap) (PW.take 34)),(Ju (jo s.heap) (PW.drop 34),mR (jo s.heap) 0 15))),(((mR (jo s.heap) 15 15,mR (jo s.heap) 30 15),(mR (jo s.heap) 45 15,mR (jo s.heap) 60 15)),((mR (jo s.heap) 75 15,mR (jo s.heap) 90 15),(mR (jo s.heap) 105 15,mR (jo s.heap) 120 11))))) (λzz=>((((true,true),(true,true)),((true,true),(true,jA 0 15))),(((jA 15 15,jA 30 15),(jA 45 15,jA 60 15)),((jA 75 15,jA 90 15),(jA 105 15,jA 120 11))))) N)
  (hX:∀s,Xt s=true->XP (s.heap.nsMap mainGlobals) s.heap)(hXk:∀mg h h',XP mg h->(∀b o,h.get? b=some o->h'.get? b=some o)->XP mg h')
  (hdef:defOf q r.name=some (d,kwd))(hp:r.prog.theDef r.name=some (d.params,d.body,d.scope))(hk:kwWritten? d.params.kwonlyargs d.params.kw_defaults=some kwd)(hRf:∀s,Xt s=true->RecFacts r.records s.heap)(hwr:(!r.writes || r.records.isEmpty)=true)
  (k1:r.wellSaid=true)(ok:(chainsOk q && opensWell r.prog && (frees r.toRowW && r.within.isEmpty))=true)(hb:r.prog.bare)(hw:r.toRowW.promised)
  (call:WalkO q loose XP hkSays r.toRowW d kwd λf vs=>PySem.call f vs):r.Holds:=
 holds_open left (YP:=hkSays) (λzz s e=>by
   obtain⟨e1,e2⟩:=aD e;obtain⟨e11,e12⟩:=aD e1;obtain⟨e111,e112⟩:=aD e11;obtain⟨e1111,e1112⟩:=aD e111;obtain⟨e1121,e1122⟩:=aD e112;obtain⟨e121,e122⟩:=aD e12;obtain⟨e1211,e1212⟩:=aD e121;obtain⟨e1221,e1222⟩:=aD e122;obtain⟨e21,e22⟩:=aD e2;obtain⟨e211,e212⟩:=aD e21;obtain⟨e2111,e2112⟩:=aD e211;obtain⟨e2121,e2122⟩:=aD e212;obtain⟨e221,e222⟩:=aD e22;obtain⟨e2211,e2212⟩:=aD e221;obtain⟨e2221,e2222⟩:=aD e222;exact eH (jo s.heap) (E3 _) (NT e1111 e1112 e1121 e1122 e1211 e1212 e1221) (Lc e1222 e2111 e2112 e2121 e2122 e2211 e2212 e2221 e2222))
  (λzz h h' xq1 k=>aM xq1 λK x e=>(bI K (x.keeps k) e)) hX hXk hdef hp hk hRf hwr k1 ok hb hw call
end
end Mine.Internal
end

namespace Mine.Internal.hd
def tw8309203274149972828:=True
universe PY.F xF mJ CN TQ Di tH Av ke.F CX.slot Ej mO.F cp.F Fu CX.gv G1 pG CX.inner qX tA.F Ft BL kY Fv wy Ir DG jr LM rY Cr PN QO P7.F zC vg jS yI TV HW wz Bs Ai IF uU mR Ju PM Sd hd.view_1_39 hd.env_1_41
end Mine.Internal.hd
section
open PySem PySem.W PyProof.Rows
namespace Mine.Internal
set_option Elab.async true in
set_option maxHeartbeats 8000000 in
theorem hd(fin:∀{q:Program}{loose:List Str}{XP:(Str->Option Value)->Heap->Prop}{d:DefRec}{kwd:List (Str×PySem.Expr)},d.name="law"->WalkO q loose XP hkSays PySem.Challenge.rw_nt0261_01.row.toRowW d kwd fun f vs=>call f vs):PySem.Challenge.rw_nt0261_01.Holds:=by
  w_on; o_law; o_head Hook.none; (case hw => w_witness2)
end Mine.Internal
end
section
open PySem
namespace Mine.Internal
mutual
abbrev Uy:Nat:=2 ^ 1024
@[irreducible] noncomputable def fR(i:Int):Bool:=cg i.natAbs Uy
@[irreducible] noncomputable def cG(n:Nat):Bool:=dn n 1000000
inductive It where
 | str (s:List Nat)
 | enum (i:Nat) (s:List Nat)
 | vals (vs:List AV)
 | rng (cur step:Int) (n:Nat)
 | cell (k i:Nat)
inductive Fl where
 | next
 | cont
 | ret (v:AV)
abbrev Fl.ctorIdx(x:Fl):Nat:=Fl.casesOn x 0 1 (λzz=>2)
abbrev hO(a b c:Int):Nat:=(eO a b c).toNat
abbrev fL{β:Type}(x:AV)(k:Int->Option β):Option β:=match x with
 | .int i=>k i
 | _=>none
abbrev iq{β:Type}(x:AV)(k:List Nat->Option β):Option β:=match x with
 | .str s=>k s
 | _=>none
abbrev tV{β:Type}(x:AV)(k:Bool->Option β):Option β:=match x with
 | .bool s=>k s
 | _=>none
abbrev nC{β:Type}(x:AV)(k:Nat->Option β):Option β:=match x with
 | .ref s=>k s
 | _=>none
abbrev JZ{β:Type}(x:AV)(k:List AV->Option β):Option β:=match x with
 | .U s=>k s
 | _=>none
abbrev J0{β:Type}(x:AV)(k:Int->Int->Int->Option β):Option β:=match x with
 | .rng a b c=>k a b c
 | _=>none
abbrev vj{β:Type}(x:Int)(k:Nat->Option β):Option β:=match x with
 | .ofNat n=>k n
 | .negSucc _=>none
abbrev FV{α β:Type}(args:List α)(k:Option β):Option β:=match args with
 | []=>k
 | _::_=>none
abbrev qi{α β:Type}(args:List α)(k:α->Option β):Option β:=match args with
 | []=>none
 | x::r=>FV r (k x)
abbrev J1{α β:Type}(args:List α)(k:α->α->Option β):Option β:=match args with
 | []=>none
 | x::r=>qi r (k x)
abbrev eV{β:Type}(b:Bool)(o:Option β):Option β:=match b with
 | true=>o
 | false=>none
abbrev aF(H:Hp)(k:Nat):Option (List AV):=match H[k]? with
 | some (.list vs)=>some vs
 | _=>none
end
mutual
/-- -/
noncomputable def mX:AV->Option PyData
 | .none=>some .none
 | .bool b=>some (.bool b)
 | .int i=>some (.int i)
 | .str s=>some (.str ⟨s.toArray⟩)
 | .U vs=>(toPDs vs).map .tuple
 | _=>none
noncomputable def toPDs:List AV->Option (List PyData)
 | []=>some []
 | a::r=>match mX a,toPDs r with
  | some x,some y=>some (x::y)
  | _,_=>none
end
mutual
abbrev CV(x y:Option PyData):Option Bool:=match x,y with
 | some p,some q=>match SeqAt.shaped p && SeqAt.shaped q with
  | true=>some (PyData.eqv p q)
  | false=>none
 | _,_=>none
abbrev Gj(H:Hp)(a b:AV):Option Bool:=match a with
 | .int a=>fL b λb=>some (decide (a=b))
 | .str a=>iq b λb=>some (decide (a=b))
 | .ref i=>nC b λj=>(aF H i).bind λx=>(aF H j).bind λy=>cond (aX x.length y.length) (CV ((toPDs x).map .list) ((toPDs y).map .list)) (some false)
 | .U x=>JZ b λy=>CV ((toPDs x).map .tuple) ((toPDs y).map .tuple)
 | _=>none
abbrev mF:AV->Bool
 | .none=>true
 | _=>false
abbrev N9(x:AV)(j:Nat):Option Bool:=match x with
 | .obj i=>some (aX i j)
 | .ref _=>some false
 | .none=>some false
 | .bool _=>some false
 | .int _=>some false
 | .str _=>some false
 | _=>none
abbrev N8(x:AV)(j:Nat):Option Bool:=match x with
 | .none=>some false
 | .obj _=>some false
 | .ref i=>some (aX i j)
 | _=>none
abbrev Dl(x y:AV):Option Bool:=match y with
 | .none=>some (mF x)
 | .obj j=>N9 x j
 | .ref j=>N8 x j
 | _=>none
abbrev Eg(o:CO)(a b:Int):Option Bool:=match o with
 | .lt=>some (decide (a<b))
 | .le=>some (decide (a<=b))
 | .gt=>some (decide (b<a))
 | .ge=>some (decide (b<=a))
 | _=>none
abbrev zM(o:CO)(a b:AV):Option Bool:=fL a λi=>fL b λj=>Eg o i j
abbrev gY:List AV->Option (List (List Nat))
 | []=>some []
 | .str s::r=>(gY r).map (s::·)
 | _=>none
abbrev Od(x:List Nat)(b:AV):Option Bool:=match b with
 | .str s=>qi x λc=>some (s.contains c)
 | .U vs=>(gY vs).map λys=>ys.any λy=>decide (y=x)
 | _=>none
abbrev Oc(a b:AV):Option Bool:=iq a λx=>Od x b
abbrev iI(H:Hp)(o:CO)(a b:AV):Option Bool:=match o with
 | .eq=>Gj H a b
 | .ne=>(Gj H a b).map (!·)
 | .is=>Dl a b
 | .isnot=>(Dl a b).map (!·)
 | .isin=>Oc a b
 | .notin=>(Oc a b).map (!·)
 | .lt=>zM .lt a b
 | .le=>zM .le a b
 | .gt=>zM .gt a b
 | .ge=>zM .ge a b
abbrev yL(b:Bool):Int:=if b then 1 else 0
abbrev G7(n:Nat):Int:=((2 ^ n:Nat):Int)
abbrev HN(a:Int)(n:Nat):Int:=match a with
 | .ofNat m=>((m ^ n:Nat):Int)
 | a=>a ^ n
abbrev ET(o:O2)(a b:Int):Option Int:=match o with
 | .add=>some (a+b)
 | .sub=>some (a-b)
 | .mod=>eV (!decide (b=0)) (some (gu a b))
 | .fdiv=>eV (!decide (b=0) && fR b) (some (lq a b))
 | .mul=>eV (fR a && fR b) (some (a*b))
 | .pow=>eV (fR a && decide (0<=b/\b<=64)) (some (HN a b.toNat))
 | .shl=>eV (fR a && decide (0<=b/\b<=1024)) (some (a*G7 b.toNat))
 | .shr=>eV (decide (0<=b)) (some (lq a (G7 b.toNat)))
 | .band=>some (Builtin.bitAnd a b)
abbrev lN(H:Hp)(c:Cell):AV×Hp:=(.ref H.length,H++ [c])
abbrev O2.isAdd:O2->Bool
 | .add=>true
 | _=>false
abbrev O2.isSub:O2->Bool
 | .sub=>true
 | _=>false
abbrev O2.isMul:O2->Bool
 | .mul=>true
 | _=>false
abbrev D5(H:Hp):AV->Option (List AV)
 | .a vs=>some vs
 | .ref k=>aF H k
 | _=>none
abbrev nY(o:O2)(a b:AV)(H:Hp):Option (AV×Hp):=match a with
 | .int i=>fL b λj=>(ET o i j).map λk=>(.int k,H)
 | .bool x=>eV o.isSub (tV b λy=>some (.int (yL x-yL y),H))
 | .str x=>cond o.isAdd (iq b λy=>eV (cG (x.length+y.length)) (some (.str (x++y),H))) (eV o.isMul (fL b λn=>eV (decide (0<=n/\n<=1000) && cG (x.length*1000)) (some (.str (cD n.toNat x).flatten,H))))
 | .ref k=>eV o.isAdd ((aF H k).bind λx=>(D5 H b).bind λy=>eV (cG (x.length+y.length)) (some (lN H (.list (x++y)))))
 | _=>none
abbrev bR(n:Nat):List Nat:=(Nat.toDigits 10 n).map Char.toNat
abbrev dH:Int->List Nat
 | .ofNat n=>bR n
 | .negSucc n=>45::bR (n+1)
abbrev oh(sep:List Nat):List (List Nat)->List Nat
 | []=> []
 | [x]=>x
 | x::r=>x++sep++oh sep r
abbrev j6(sep:List Nat)(vs:List AV):Option AV:=match gY vs with
 | some xs=>match cG (xs.foldr (λx n=>x.length+sep.length+n) 0) && cG vs.length with
  | true=>some (.str (oh sep xs))
  | false=>none
 | none=>none
abbrev gh(c:Nat):List Nat->Option Nat
 | []=>none
 | x::r=>match aX x c with
  | true=>some 0
  | false=>(gh c r).map (· +1)
abbrev nR(c:Nat)(l:List Nat):List Nat:=(l.reverse.dropWhile (aX c)).reverse
abbrev eZ(c:Nat):List Nat->List (List Nat)
 | []=> [[]]
 | x::r=>match aX x c with
  | true=> []::eZ c r
  | false=>match eZ c r with
   | []=> [[x]]
   | y::t=>(x::y)::t
abbrev dw(c:Nat)(y:List Nat):List Nat->List Nat
 | []=> []
 | x::r=>match aX x c with
  | true=>y++dw c y r
  | false=>x::dw c y r
abbrev xQ:List Nat->Option (List Nat)
 | []=>some []
 | x::r=>match cg x 128 with
  | false=>none
  | true=>(xQ r).map ((match dn 65 x && dn x 90 with | true=>x+32 | false=>x)::·)
abbrev jz(f:Nat):List (Nat×AV)->Option AV
 | []=>none
 | (g,v)::r=>match aX g f with
  | true=>some v
  | false=>jz f r
abbrev oI(f:Nat)(v:AV):List (Nat×AV)->List (Nat×AV)
 | []=> [(f,v)]
 | (g,u)::r=>match aX g f with
  | true=>(f,v)::r
  | false=>(g,u)::oI f v r
abbrev kB(k:List Nat):List (List Nat×AV)->Option AV
 | []=>none
 | (g,v)::r=>if g=k then some v else kB k r
abbrev nV(k:List Nat)(v:AV):List (List Nat×AV)->List (List Nat×AV)
 | []=> [(k,v)]
 | (g,u)::r=>if g=k then(k,v)::r else(g,u)::nV k v r
abbrev wY (i:Int)(n:Nat):Option Nat:=match cG n with
 | false=>none
 | true=>match i with
  | .ofNat j=>match cg j n with | true=>some j | false=>none
  | .negSucc j=>match cg j n with | true=>some (n-(j+1)) | false=>none
abbrev rO(vs:List AV)(i:Int):Option AV:=(wY i vs.length).bind λj=>vs[j]?
abbrev HP(H:Hp)(i:Int):AV->Option AV
 | .str s=>(wY i s.length).bind λj=>(s[j]?).map λc=> .str [c]
 | .U vs=>rO vs i
 | .a vs=>rO vs i
 | .ref k=>(aF H k).bind λvs=>rO vs i
 | _=>none
abbrev rN(H:Hp)(a b:AV):Option AV:=fL b λi=>HP H i a
abbrev mK (n:Nat):Option AV->Option Nat
 | none=>some n
 | some (.int (.ofNat i))=>some i
 | _=>none
abbrev iw(a:AV)(lo hi:Option AV)(H:Hp):Option (AV×Hp):=match a with
 | .str s=>eV (cG s.length) ((mK 0 lo).bind λi=>(mK s.length hi).map λj=>(.str ((s.take j).drop i),H))
 | .a vs=>eV (cG vs.length) ((mK 0 lo).bind λi=>(mK vs.length hi).map λj=>lN H (.list ((vs.take j).drop i)))
 | _=>none
abbrev lM:List AV->Option (List Bool)
 | []=>some []
 | .bool b::r=>(lM r).map (b::·)
 | _=>none
abbrev EG(H:Hp):AV->Option Nat
 | .str s=>some s.length
 | .U vs=>some vs.length
 | .a vs=>some vs.length
 | .ref k=>(aF H k).map jf
 | _=>none
abbrev KO(args:List AV)(H:Hp):Option (AV×Hp):=match args with
 | []=>none
 | x::r=>fL x λa=>match r with
  | []=>some (.rng 0 a 1,H)
  | y::r=>fL y λb=>match r with
   | []=>some (.rng a b 1,H)
   | z::r=>FV r (fL z λc=>eV (fR c && !decide (c=0)) (some (.rng a b c,H)))
abbrev BS(b:BI)(args:List AV)(H:Hp):Option (AV×Hp):=match b with
 | .abs=>qi args λx=>fL x λi=>some (.int i.natAbs,H)
 | .chr=>qi args λx=>fL x λi=>vj i λn=>eV (cg n 1114112) (some (.str [n],H))
 | .ord=>qi args λx=>iq x λs=>qi s λc=>some (.int c,H)
 | .len=>qi args λx=>(EG H x).bind λn=>eV (cG n) (some (.int n,H))
 | .divmod=>J1 args λx y=>fL x λa=>fL y λb=>eV (fR b && !decide (b=0)) (some (.U [.int (lq a b), .int (gu a b)],H))
 | .int=>qi args λx=>tV x λb=>some (.int (yL b),H)
 | .list=>qi args λx=>J0 x λa b c=>eV (cG (hO a b c) && cy a b c) (some (lN H (.list ((cS (hO a b c)).map λi:Nat=> .int (a+(i:Int)*c)))))
 | .max=>J1 args λx y=>fL x λa=>fL y λb=>some (.int (if b > a then b else a),H)
 | .min=>J1 args λx y=>fL x λa=>fL y λb=>some (.int (if b<a then b else a),H)
 | .str=>qi args λx=>fL x λi=>eV (fR i) (some (.str (dH i),H))
 | .tuple=>qi args λx=>nC x λk=>(aF H k).bind λvs=>eV (cG vs.length) (some (.U vs,H))
 | .all=>qi args λx=>nC x λk=>(aF H k).bind λvs=>(lM vs).map λbs=>(.bool (bs.all id),H)
 | .range=>KO args H
abbrev pX:Option Nat->Nat->Int
 | some i,j=>((j+i:Nat):Int)
 | none,_=> -1
abbrev Bu(s:List Nat)(args:List AV)(H:Hp):Option (AV×Hp):=match args with
 | []=>none
 | x::r=>iq x λw=>qi w λc=>match r with
  | []=>some (.int (pX (gh c s) 0),H)
  | y::r=>FV r (fL y λz=>vj z λi=>some (.int (pX (gh c (s.drop i)) i),H))
abbrev Ey(s:List Nat)(args:List AV)(H:Hp):Option (AV×Hp):=qi args λx=>iq x λw=>qi w λc=>(gh c s).map λi:Nat=>(.int (i:Int),H)
abbrev JA(s:List Nat)(args:List AV)(H:Hp):Option (AV×Hp):=qi args λx=>nC x λk=>(aF H k).bind λvs=>(j6 s vs).map (·,H)
abbrev Ex(s:List Nat)(args:List AV)(H:Hp):Option (AV×Hp):=FV args (eV (cG s.length) ((xQ s).map λx=>(.str x,H)))
abbrev Jz(s:List Nat)(args:List AV)(H:Hp):Option (AV×Hp):=J1 args λx y=>iq x λw=>qi w λc=>iq y λzz=>eV (!s.contains c) (some (.str s,H))
abbrev Bt(s:List Nat)(args:List AV)(H:Hp):Option (AV×Hp):=qi args λx=>iq x λw=>qi w λc=>eV (cG s.length) (some (.str (nR c s),H))
abbrev Ew(s:List Nat)(args:List AV)(H:Hp):Option (AV×Hp):=qi args λx=>iq x λw=>qi w λc=>eV (cG s.length) (some (lN H (.list ((eZ c s).map .str))))
abbrev ue(s:List Nat)(m:Nat)(args:List AV)(H:Hp):Option (AV×Hp):=
 cond (aX m 4) (Bu s args H) (cond (aX m 5) (Ey s args H) (cond (aX m 6) (JA s args H) (cond (aX m 7) (Ex s args H) (cond (aX m 8) (Jz s args H) (cond (aX m 9) (Bt s args H) (eV (aX m 10) (Ew s args H)))))))
abbrev Bv(k:Nat)(vs:List AV)(args:List AV)(H:Hp):Option (AV×Hp):=qi args λx=>eV (cG vs.length) (some (.none,H.set k (.list (vs++ [x]))))
abbrev NZ(k:Nat)(vs:List AV)(args:List AV)(H:Hp):Option (AV×Hp):=FV args (eV (cG vs.length) ((vs.getLast?).map λx=>(x,H.set k (.list vs.dropLast))))
abbrev N0(es:List (List Nat×AV))(args:List AV)(H:Hp):Option (AV×Hp):=J1 args λx d=>iq x λs=>some ((kB s es).getD d,H)
abbrev FA(k m:Nat)(args:List AV)(H:Hp):Cell->Option (AV×Hp)
 | .list vs=>cond (aX m 0) (Bv k vs args H) (eV (aX m 1) (NZ k vs args H))
 | .dict es=>eV (aX m 2) (N0 es args H)
 | .n _ _=>none
abbrev kR(v:AV)(m:Nat)(args:List AV)(H:Hp):Option (AV×Hp):=match v with
 | .ref k=>(H[k]?).bind (FA k m args H)
 | .int i=>eV (aX m 3) (FV args (some (.int ((gW i:Nat)),H)))
 | .str s=>ue s m args H
 | _=>none
abbrev lH(m:Nat):Option Cell->Bool
 | some (.list _)=>dn m 1
 | some (.dict _)=>aX m 2
 | _=>false
abbrev km(H:Hp)(v:AV)(m:Nat):Bool:=match v with
 | .ref k=>lH m H[k]?
 | .int _=>aX m 3
 | .str _=>dn 4 m && dn m 10
 | _=>false
abbrev Fi(p:List Nat)(v:AV)(y1:Nat)(z1:List Nat)(y2:Nat)(z2:List Nat):Option AV:=iq v λs=>
 eV (cG s.length && cG (dw y1 z1 s).length && cG (p.length+(dw y2 z2 (dw y1 z1 s)).length) && dn z1.length 14 && dn z2.length 14 && !([y1]==z1) && !([y2]==z2)) (some (.str (p++dw y2 z2 (dw y1 z1 s))))
abbrev gX:AV->Option Bool
 | .bool b=>some b
 | _=>none
abbrev jh(ls:Ls)(i:Nat)(v:AV):Option Ls:=match cg i ls.length with
 | true=>some (ls.set i (some v))
 | false=>none
abbrev fo:Ls->List Nat->List AV->Option Ls
 | ls,[],[]=>some ls
 | ls,i::is,v::vs=>(jh ls i v).bind λls=>fo ls is vs
 | _,_,_=>none
abbrev jd(H:Hp)(ls:Ls):PT->AV->Option Ls
 | .one i,v=>jh ls i v
 | .many is, .U vs=>fo ls is vs
 | .many is, .ref k=>(aF H k).bind λvs=>fo ls is vs
 | _,_=>none
abbrev eW(ls:Ls)(t:PT):Bool:=t.slots.all λi=>match ls[i]? with
 | some none=>true
 | _=>false
abbrev gC(H:Hp):AV->Option It
 | .str s=>some (.str s)
 | .U vs=>some (.vals vs)
 | .a vs=>some (.vals vs)
 | .rng a b c=>eV (cy a b c) (some (.rng a c (hO a b c)))
 | .ref k=>(aF H k).map λzz=> .cell k 0
 | _=>none
abbrev LY:AV->Option It
 | .str s=>some (.enum 0 s)
 | _=>none
abbrev sH(q:Bool)(H:Hp)(x:AV):Option It:=match q with
 | true=>LY x
 | false=>gC H x
abbrev It.next(H:Hp):It->Option (Option (AV×It))
 | .str []=>some none
 | .str (c::r)=>some (some (.str [c], .str r))
 | .enum _ []=>some none
 | .enum i (c::r)=>some (some (.U [.int i, .str [c]], .enum (i+1) r))
 | .vals []=>some none
 | .vals (v::r)=>some (some (v, .vals r))
 | .rng _ _ 0=>some none
 | .rng a c (n+1)=>some (some (.int a, .rng (a+c) c n))
 | .cell k i=>(aF H k).map λvs=>(vs[i]?).map λv=>(v, .cell k (i+1))
abbrev Cy(k:IK)(c':Nat):Bool:=match k with
 | .cls c=>aX c' c
 | _=>false
abbrev QC:IK->Bool
 | .cls _=>false
 | _=>true
abbrev QB:IK->Bool
 | .int=>true
 | _=>false
abbrev QA(k:IK):Cell->Option Bool
 | .n c' _=>some (Cy k c')
 | _=>none
abbrev kx(P:Pg)(H:Hp)(k:IK)(v:AV):Option Bool:=match v with
 | .bool _=>some (QC k)
 | .int _=>some (QB k)
 | .obj i=>(P.objs[i]?).map (Cy k)
 | .ref i=>(H[i]?).bind (QA k)
 | _=>none
abbrev wU(P:Pg)(c f:Nat):Bool:=match P.clss[c]? with
 | some C=>C.flds.contains f
 | none=>false
abbrev FQ(P:Pg)(f:Nat):Cell->Option AV
 | .n c fs=>eV (wU P c f) (jz f fs)
 | _=>none
abbrev vh(P:Pg)(H:Hp)(x:AV)(f:Nat):Option AV:=nC x λk=>(H[k]?).bind (FQ P f)
abbrev mf:E->Bool
 | .not _=>true
 | .and _ _=>true
 | .or _ _=>true
 | .ife _ _ _=>true
 | _=>false
structure Ev where
 e:Nat->Ls->Hp->E->Option (AV×Hp)
 es:Nat->Ls->Hp->List E->Option (List AV×Hp)
 t:Nat->Ls->Hp->E->Option (Bool×Hp)
 s:Nat->Ls->Hp->S->Option (Fl×Ls×Hp)
 ss:Nat->Ls->Hp->List S->Option (Fl×Ls×Hp)
 asg:Nat->Ls->Hp->T->AV->Option (Ls×Hp)
 asgs:Nat->Ls->Hp->List T->List AV->Option (Ls×Hp)
 call:Nat->Hp->Nat->List AV->Option (AV×Hp)
 for_:Nat->Ls->Hp->It->PT->List S->Option (Fl×Ls×Hp)
 comp:Nat->Ls->Hp->It->PT->Option E->E->Nat->Option Hp
abbrev Ev.bot:Ev where
 e:=λzz zy zx zw=>none
 es:=λzz zy zx zw=>none
 t:=λzz zy zx zw=>none
 s:=λzz zy zx zw=>none
 ss:=λzz zy zx zw=>none
 asg:=λzz zy zx zw zv=>none
 asgs:=λzz zy zx zw zv=>none
 call:=λzz zy zx zw=>none
 for_:=λzz zy zx zw zv zu=>none
 comp:=λzz zy zx zw zv zu zt zs=>none
abbrev MV(f:E->Option (AV×Hp))(H:Hp):Option E->Option (Option AV×Hp)
 | none=>some (none,H)
 | some x=>(f x).map fun(v,H)=>(some v,H)
abbrev xK(P:Pg)(m:Nat):Cell->Option Nat
 | .n c fs=>match jz m fs with
  | none=>(P.clss[c]?).bind λC=>C.meths.lookup m
  | some zz=>none
 | _=>none
abbrev kS(P:Pg)(H:Hp):AV->Nat->Option Nat
 | .ref k,m=>(H[k]?).bind (xK P m)
 | _,_=>none
abbrev dP(P:Pg)(r:Ev)(d:Nat)(ls:Ls)(H:Hp):E->Option (AV×Hp)
 | .fail=>none
 | .lit v=>some (v,H)
 | .v i=>match ls[i]? with
  | some (some v)=>some (v,H)
  | _=>none
 | .list es=>(r.es d ls H es).bind fun(vs,H)=>eV (cG vs.length) (some (lN H (.list vs)))
 | .U es=>(r.es d ls H es).bind fun(vs,H)=>eV (cG vs.length) (some (.U vs,H))
 | .dict0=>some (lN H (.dict []))
 | .o o a b=>(r.e d ls H a).bind fun(x,H)=>(r.e d ls H b).bind fun(y,H)=>nY o x y H
 | .neg a=>(r.e d ls H a).bind fun(x,H)=>fL x λi=>some (.int (-i),H)
 | .not a=>(r.e d ls H a).bind fun(x,H)=>(gX x).map λb=>(.bool (!b),H)
 | .j o a b=>(r.e d ls H a).bind fun(x,H)=>(r.e d ls H b).bind fun(y,H)=>(iI H o x y).map λb=>(.bool b,H)
 | .chain a o b o' c=>(r.e d ls H a).bind fun(x,H)=>(r.e d ls H b).bind fun(y,H)=>(iI H o x y).bind λq=>match q with
  | false=>some (.bool false,H)
  | true=>(r.e d ls H c).bind fun(z,H)=>(iI H o' y z).map λb=>(.bool b,H)
 | .and a b=>(r.e d ls H a).bind fun(x,H)=>(gX x).bind λq=>match q with
  | false=>some (x,H)
  | true=>r.e d ls H b
 | .or a b=>(r.e d ls H a).bind fun(x,H)=>(gX x).bind λq=>match q with
  | true=>some (x,H)
  | false=>r.e d ls H b
 | .ife c a b=>(r.t d ls H c).bind fun(q,H)=>match q with
  | true=>r.e d ls H a
  | false=>r.e d ls H b
 | .aT a f=>(r.e d ls H a).bind fun(x,H)=>(vh P H x f).map λv=>(v,H)
 | .idx a b=>(r.e d ls H a).bind fun(x,H)=>(r.e d ls H b).bind fun(y,H)=>(rN H x y).map λv=>(v,H)
 | .slice a lo hi=>(r.e d ls H a).bind fun(x,H)=>(MV (r.e d ls H) H lo).bind fun(l,H)=>(MV (r.e d ls H) H hi).bind fun(h,H)=>iw x l h H
 | .call f as=>(r.es d ls H as).bind fun(vs,H)=>r.call d H f vs
 | .new c as=>(r.es d ls H as).bind fun(vs,H)=>(P.clss[c]?).bind λC=>
   (r.call d (H++ [.n c []]) C.init (.ref H.length::vs)).bind fun(x,H')=>eV (mF x) (some (.ref H.length,H'))
 | .bi b as=>(r.es d ls H as).bind fun(vs,H)=>BS b vs H
 | .h a k=>(r.e d ls H a).bind fun(x,H)=>(kx P H k x).map λb=>(.bool b,H)
 | .meth a m as=>(r.e d ls H a).bind fun(x,H)=>match kS P H x m with
  | some f=>(r.es d ls H as).bind fun(vs,H)=>r.call d H f (x::vs)
  | none=>eV (km H x m) ((r.es d ls H as).bind fun(vs,H)=>kR x m vs H)
 | .esc p x y1 z1 y2 z2=>(r.e d ls H x).bind fun(v,H)=>(Fi p v y1 z1 y2 z2).map λv=>(v,H)
 | .joinrev a b=>(r.e d ls H a).bind fun(x,H)=>(r.e d ls H b).bind fun(y,H)=>iq x λs=>nC y λk=>(aF H k).bind λvs=>(j6 s vs.reverse).map (·,H)
 | .dget kvs k dv=>(r.e d ls H k).bind fun(x,H)=>(r.e d ls H dv).bind fun(y,H)=>fL x λi=>iq y λy=>some (.str ((kvs.lookup i).getD y),H)
 | .comp elt t src en c=>match eW ls t with
  | false=>none
  | true=>(r.e d ls H src).bind fun(x,H)=>(sH en H x).bind λit=>(r.comp d ls (H++ [.list []]) it t c elt H.length).map λH'=>(.ref H.length,H')
abbrev mM(r:Ev)(d:Nat)(ls:Ls)(H:Hp):E->Option (Bool×Hp)
 | .not a=>(r.t d ls H a).map fun(b,H)=>(!b,H)
 | .and a b=>(r.t d ls H a).bind fun(q,H)=>match q with
  | false=>some (false,H)
  | true=>r.t d ls H b
 | .or a b=>(r.t d ls H a).bind fun(q,H)=>match q with
  | true=>some (true,H)
  | false=>r.t d ls H b
 | .ife c a b=>(r.t d ls H c).bind fun(q,H)=>match q with
  | true=>r.t d ls H a
  | false=>r.t d ls H b
 | e=>(r.e d ls H e).bind fun(x,H)=>(gX x).map λb=>(b,H)
abbrev oE(r:Ev)(d:Nat)(ls:Ls)(H:Hp):List E->Option (List AV×Hp)
 | []=>some ([],H)
 | x::xs=>(r.e d ls H x).bind fun(v,H)=>(r.es d ls H xs).map fun(vs,H)=>(v::vs,H)
abbrev D4(P:Pg)(H:Hp)(k f:Nat)(v:AV):Cell->Option Hp
 | .n c fs=>eV (wU P c f && cg fs.length 20) (some (H.set k (.n c (oI f v fs))))
 | _=>none
abbrev l6(P:Pg)(H:Hp)(x:AV)(f:Nat)(v:AV):Option Hp:=nC x λk=>(H[k]?).bind (D4 P H k f v)
abbrev D0(H:Hp)(k:Nat)(i v:AV):Cell->Option Hp
 | .list vs=>fL i λz=>vj z λj=>eV (cg j vs.length && cG vs.length) (some (H.set k (.list (vs.set j v))))
 | .dict es=>iq i λs=>eV (cG es.length) (some (H.set k (.dict (nV s v es))))
 | _=>none
abbrev mY(H:Hp)(x i v:AV):Option Hp:=nC x λk=>(H[k]?).bind (D0 H k i v)
abbrev sF(P:Pg)(r:Ev)(d:Nat)(ls:Ls)(H:Hp)(t:T)(v:AV):Option (Ls×Hp):=match t with
 | .v i=>(jh ls i v).map (·,H)
 | .aT a f=>(r.e d ls H a).bind fun(x,H)=>(l6 P H x f v).map (ls,·)
 | .idx a b=>(r.e d ls H a).bind fun(x,H)=>(r.e d ls H b).bind fun(i,H)=>(mY H x i v).map (ls,·)
 | .U ts=>JZ v λvs=>r.asgs d ls H ts vs
abbrev oF(r:Ev)(d:Nat)(ls:Ls)(H:Hp)(ts:List T)(vs:List AV):Option (Ls×Hp):=match ts,vs with
 | [],[]=>some (ls,H)
 | t::ts,v::vs=>(r.asg d ls H t v).bind fun(ls,H)=>r.asgs d ls H ts vs
 | _,_=>none
abbrev pz(r:Ev)(d:Nat)(ls:Ls)(H:Hp):S->Option (Fl×Ls×Hp)
 | .fail=>none
 | .expr e=>(r.e d ls H e).map fun(zz,H)=>(.next,ls,H)
 | .ret e=>(r.e d ls H e).map fun(v,H)=>(.ret v,ls,H)
 | .retn=>some (.ret .none,ls,H)
 | .aS t e=>(r.e d ls H e).bind fun(v,H)=>(r.asg d ls H t v).map fun(ls,H)=>(.next,ls,H)
 | .ite c a b=>(r.t d ls H c).bind fun(q,H)=>match q with
  | true=>r.ss d ls H a
  | false=>r.ss d ls H b
 | .while c b=>(r.t d ls H c).bind fun(q,H)=>match q with
  | true=>(r.ss d ls H b).bind fun(f,ls,H)=>match f with
   | .ret v=>some (.ret v,ls,H)
   | _=>r.s d ls H (.while c b)
  | false=>some (.next,ls,H)
 | .for t src b=>(r.e d ls H src).bind fun(x,H)=>match gC H x with
  | some it=>r.for_ d ls H it t b
  | none=>none
 | .pass=>some (.next,ls,H)
 | .cont=>some (.cont,ls,H)
 | .try_ b=>r.ss d ls H b
abbrev oD(r:Ev)(d:Nat)(ls:Ls)(H:Hp):List S->Option (Fl×Ls×Hp)
 | []=>some (.next,ls,H)
 | x::xs=>(r.s d ls H x).bind fun(f,ls,H)=>match f with
  | .next=>r.ss d ls H xs
  | f=>some (f,ls,H)
abbrev iE(P:Pg)(r:Ev)(d:Nat)(H:Hp)(f:Nat)(args:List AV):Option (AV×Hp):=match d,P.fns[f]? with
 | d+1,some F=>
  let vs:=args++F.dfl.drop (F.dfl.length-(F.np-args.length))
  match vs.length==F.np with
  | true=>(r.ss d (vs.map some++cD (F.nl-F.np) none) H F.body).bind fun(fl,zz,H)=>match fl with
   | .ret v=>some (v,H)
   | .next=>some (.none,H)
   | .cont=>none
  | false=>none
 | _,_=>none
abbrev mB(r:Ev)(d:Nat)(ls:Ls)(H:Hp)(it:It)(t:PT)(b:List S):Option (Fl×Ls×Hp):=(it.next H).bind λo=>match o with
 | none=>some (.next,ls,H)
 | some (v,it)=>(jd H ls t v).bind λls=>(r.ss d ls H b).bind fun(f,ls,H)=>match f with
  | .ret v=>some (.ret v,ls,H)
  | _=>r.for_ d ls H it t b
abbrev kJ(r:Ev)(d:Nat)(ls:Ls)(H:Hp)(it:It)(t:PT)(c:Option E)(elt:E)(k:Nat):Option Hp:=(it.next H).bind λo=>match o with
 | none=>some H
 | some (v,it)=>(jd H ls t v).bind λls=>(match c with
   | none=>some (true,H)
   | some c=>r.t d ls H c).bind fun(q,H)=>match q with
  | false=>r.comp d ls H it t c elt k
  | true=>(r.e d ls H elt).bind fun(x,H)=>(kR (.ref k) 0 [x] H).bind fun(zz,H)=>r.comp d ls H it t c elt k
abbrev Ev.step(P:Pg)(r:Ev):Ev where
 e:=dP P r
 es:=oE r
 t:=mM r
 s:=pz r
 ss:=oD r
 asg:=sF P r
 asgs:=oF r
 call:=iE P r
 for_:=mB r
 comp:=kJ r
abbrev ev(P:Pg):Nat->Ev
 | 0=> .bot
 | n+1=> .step P (ev P n)
end
end Mine.Internal
end
section
open PySem PySem.Calls PyProof.Rows PySem.W
namespace Mine.Internal
mutual
variable{xs:List AV}{h':Heap}{o':Obj}{B'':BgT}{v:Value}{l F1:Raws}
noncomputable abbrev BgT:=Addr->Option Obj
abbrev Gi(B B':BgT):Prop:= ∀b o,B b=some o->B' b=some o
def Gi.refl(B:BgT):Gi B B:=λzz zy e=>e
def Gi.trans{B B':BgT}(x:Gi B B')(y:Gi B' B''):Gi B B'':=λb o e=>y b o (x b o e)
abbrev BgT.put(B:BgT)(a:Addr)(o:Obj):BgT:=λb=>if b=a then some o else B b
def Gi.put{B:BgT}{a:Addr}{o:Obj}(h:B a=none):Gi B (B.put a o):=λb x e=>by
 unfold BgT.put
 split
 ·rename_i q;subst q;rw[h]at e;cases e
 ·exact e
def kM{B:BgT}{a:Addr}{o:Obj}:B.put a o a=some o:=if_pos rfl
def vQ{B:BgT}{a b:Addr}{o:Obj}(h:b≠a):B.put a o b=B b:=if_neg h
structure Wd where
 prog:Program
 w:World
 K:Frag
 base:Heap
 p:Program
 loose:List Str
 mg:Str->Option Value
 mb:Str->Option Value
 fa:List Addr
 ca:List Addr
 oa:List Addr
 glob:List (Str×Gv)
 nm:List Str
 P:Pg
abbrev Wd.cat(W:Wd)(c:Nat):Option Addr:=cond (dn 11 c && dn c 15) none W.ca[c]?
noncomputable abbrev Wd.M(W:Wd):Model:=model W.prog W.w
noncomputable abbrev y9(its:Array Value)(n:Nat):Obj:={cls:= .type "tuple",data:= .seq its n}
abbrev tn(o:Obj)(its:List Value):Prop:=o.cls= .type "tuple"/\∃n,o.data= .seq its.toArray n
abbrev pO(o:Obj)(its:List Value):Prop:=o.cls= .type "list"/\∃n,o.data= .seq its.toArray n
abbrev v8(o:Obj)(a b c:Int):Prop:= ∃t u w,o={cls:= .type "range",data:= .fields #[.int a t, .int b u, .int c w]}
end
mutual
/-- -/
inductive VR(W:Wd)(B:BgT)(ρ:List Addr):AV->Value->Prop
 | none:VR W B ρ .none .none
 | bool {b:Bool}:VR W B ρ (.bool b) (.bool b)
 | int {i:Int} {t:Tok}:VR W B ρ (.int i) (.int i t)
 | str {s:List Nat} {t:Tok}:VR W B ρ (.str s) (.str (aO s) t)
 | U {vs:List AV} {a:Addr} {o:Obj} {its:List Value}:B a=some o->tn o its->VRs W B ρ vs its->VR W B ρ (.U vs) (.ref a)
 | a {vs:List AV} {a:Addr} {o:Obj} {its:List Value}:B a=some o->pO o its->VRs W B ρ vs its->VR W B ρ (.a vs) (.ref a)
 | obj {i:Nat} {a:Addr}:W.oa[i]? =some a->VR W B ρ (.obj i) (.ref a)
 | rng {a b c:Int} {l:Addr} {o:Obj}:B l=some o->v8 o a b c->VR W B ρ (.rng a b c) (.ref l)
 | ref {k:Nat} {a:Addr}:ρ[k]? =some a->VR W B ρ (.ref k) (.ref a)
inductive VRs(W:Wd)(B:BgT)(ρ:List Addr):List AV->List Value->Prop
 | nil:VRs W B ρ [] []
 | cons {x:AV} {v:Value} {xs:List AV} {vs:List Value}:VR W B ρ x v->VRs W B ρ xs vs->VRs W B ρ (x::xs) (v::vs)
end
mutual
structure Grow(B:BgT)(ρ:List Addr)(B':BgT)(ρ':List Addr):Prop where
 b:Gi B B'
 r:∃t,ρ'=ρ++t
def Grow.refl(B:BgT)(ρ:List Addr):Grow B ρ B ρ:=⟨.refl B,[],(br ρ).symm⟩
def Grow.trans{B B':BgT}{ρ ρ' ρ'':List Addr}(x:Grow B ρ B' ρ')(y:Grow B' ρ' B'' ρ''):Grow B ρ B'' ρ'':=
 ⟨x.b.trans y.b,by obtain⟨t,xq1⟩:=x.r;subst xq1;obtain⟨u,xq2⟩:=y.r;subst xq2;exact⟨t++u,aB ..⟩⟩
def Grow.at{B B':BgT}{ρ ρ':List Addr}(x:Grow B ρ B' ρ'){k:Nat}{a:Addr}(h:ρ[k]? =some a):ρ'[k]? =some a:=by
 obtain⟨t,xq3⟩:=x.r;subst xq3
 erw [dm (aU.mp h).1];exact h
def Grow.ofB{B B':BgT}(ρ:List Addr)(x:Gi B B'):Grow B ρ B' ρ:=⟨x,[],(br ρ).symm⟩
def Grow.push(B:BgT)(ρ:List Addr)(a:Addr):Grow B ρ B (ρ++ [a]):=⟨.refl B,[a],rfl⟩
end
section
mutual
variable{B B':BgT}{ρ ρ':List Addr}
variable{W:Wd}
def VR.mono(h:Grow B ρ B' ρ'){x:AV}{v:Value}(r:VR W B ρ x v):VR W B' ρ' x v:=
 VR.rec (motive_1:=λx v zz=>VR W B' ρ' x v) (motive_2:=λx v zz=>VRs W B' ρ' x v) .none .bool .int .str (λe i zz r=> .U (h.b _ _ e) i r) (λe i zz r=> .a (h.b _ _ e) i r) .obj (λe i=> .rng (h.b _ _ e) i) (λe=> .ref (h.at e)) .nil (λzz zy r s=> .cons r s) r
def VRs.ind{m:List AV->List Value->Prop}(n:m [] [])(c:∀{x v xs vs},VR W B ρ x v->VRs W B ρ xs vs->m xs vs->m (x::xs) (v::vs)){xs:List AV}{vs:List Value}(r:VRs W B ρ xs vs):m xs vs:=
 VRs.rec (motive_1:=λzz zy zx=>True) (motive_2:=λx v zz=>m x v) trivial trivial trivial trivial (λzz zy zx zw=>trivial) (λzz zy zx zw=>trivial) (λzz=>trivial) (λzz zy=>trivial) (λzz=>trivial) n (λh r zz ih=>c h r ih) r
def VRs.mono(h:Grow B ρ B' ρ'){x:List AV}{v:List Value}(r:VRs W B ρ x v):VRs W B' ρ' x v:=r.ind .nil λr zz s=> .cons (r.mono h) s
end
end
mutual
def VRs.length{W:Wd}{B:BgT}{ρ:List Addr}{vs:List Value}(r:VRs W B ρ xs vs):vs.length=xs.length:=r.ind (m:=λxs vs=>vs.length=xs.length) rfl λzz zy h=>congrArg (· +1) h
def VRs.get{W:Wd}{B:BgT}{ρ:List Addr}{vs:List Value}(r:VRs W B ρ xs vs):∀{i:Nat} {x:AV},xs[i]? =some x->∃v,vs[i]? =some v/\VR W B ρ x v:=
 r.ind (m:=λxs vs=> ∀{i:Nat} {x:AV},xs[i]? =some x->∃v,vs[i]? =some v/\VR W B ρ x v) (λe=>nomatch e) λh zz ih i=>by
  cases i using bM with
  | zero=>exact λe=>⟨_,rfl,af e ▸h⟩
  | succ i=>exact λe=>ih (i:=i) e
def VRs.set{W:Wd}{B:BgT}{ρ:List Addr}{vs:List Value}(r:VRs W B ρ xs vs)(i:Nat){x:AV}(a:VR W B ρ x v):VRs W B ρ (xs.set i x) (vs.set i v):=
 r.ind (m:=λxs vs=> ∀i,VRs W B ρ (xs.set i x) (vs.set i v)) (λzz=> .nil) (λh r ih i=>by
  cases i using bM with
  | zero=>exact .cons a r
  | succ i=>exact .cons h (ih i)) i
def VRs.append{W:Wd}{B:BgT}{ρ:List Addr}{ys:List AV}{vs us:List Value}(r:VRs W B ρ xs vs)(k:VRs W B ρ ys us):VRs W B ρ (xs++ys) (vs++us):=
 r.ind (m:=λxs vs=>VRs W B ρ (xs++ys) (vs++us)) k λh zz ih=> .cons h ih
def VRs.drop{W:Wd}{B:BgT}{ρ:List Addr}{vs:List Value}(r:VRs W B ρ xs vs)(i:Nat):VRs W B ρ (xs.drop i) (vs.drop i):=
 r.ind (m:=λxs vs=> ∀i,VRs W B ρ (xs.drop i) (vs.drop i)) (λi=>by induction i using bM <;> exact .nil) (λh r ih i=>by
  cases i using bM with
  | zero=>exact .cons h r
  | succ i=>exact ih i) i
def VRs.take{W:Wd}{B:BgT}{ρ:List Addr}{vs:List Value}(r:VRs W B ρ xs vs)(i:Nat):VRs W B ρ (xs.take i) (vs.take i):=
 r.ind (m:=λxs vs=> ∀i,VRs W B ρ (xs.take i) (vs.take i)) (λi=>by induction i using bM <;> exact .nil) (λh zz ih i=>by
  cases i using bM with
  | zero=>exact .nil
  | succ i=>exact .cons h (ih i)) i
def VRs.reverse{W:Wd}{B:BgT}{ρ:List Addr}{vs:List Value}(r:VRs W B ρ xs vs):VRs W B ρ xs.reverse vs.reverse:=
 r.ind (m:=λxs vs=>VRs W B ρ xs.reverse vs.reverse) .nil fun{x v xs vs} h zz ih=>oy ▸(oy (a:=v)).symm ▸ih.append (.cons h .nil)
def VRs.dropLast{W:Wd}{B:BgT}{ρ:List Addr}{vs:List Value}(h:VRs W B ρ xs vs):VRs W B ρ xs.dropLast vs.dropLast:=by
 erw [rR,rR,h.length];exact h.take _
def VR.handed{W:Wd}{B:BgT}{ρ:List Addr}{x:AV}(h:VR W B ρ x v):handedIn v=true:=VR.casesOn (motive_1:=λzz v zy=>handedIn v=true) h rfl rfl rfl rfl (λzz zy zx=>rfl) (λzz zy zx=>rfl) (λzz=>rfl) (λzz zy=>rfl) λzz=>rfl
end
section
mutual
variable{u:Value}{x:AV}{us:List Value}{xs vs:List AV}{α γ:Type}{b:Bool}{i:Int}{k:Nat}
variable{W:Wd}{B:BgT}{ρ:List Addr}{β:Type}{r:β}
def dA{a:α}{p:Prop}(h:(none:Option α)=some a):p:=nomatch h
def ly{p:Prop}(h:false=true):p:=Bool.noConfusion h
abbrev VI(W:Wd)(B:BgT)(ρ:List Addr)(x:AV)(u:Value):Prop:=
 AV.casesOn (motive_1:=λzz=>Prop) x (u= .none) (λb=>u= .bool b) (λi=> ∃t,u= .int i t) (λs=> ∃t,u= .str (aO s) t) (λvs=> ∃a o its,u= .ref a/\B a=some o/\tn o its/\VRs W B ρ vs its)
  (λvs=> ∃a o its,u= .ref a/\B a=some o/\pO o its/\VRs W B ρ vs its) (λk=> ∃a,u= .ref a/\W.oa[k]? =some a) (λa b c=> ∃l o,u= .ref l/\B l=some o/\v8 o a b c) (λk=> ∃a,u= .ref a/\ρ[k]? =some a)
def vI(h:VR W B ρ x u):VI W B ρ x u:=
 VR.casesOn (motive_1:=λx u zz=>VI W B ρ x u) h rfl rfl ⟨_,rfl⟩ ⟨_,rfl⟩ (λa b c=>(pS _ _ _ rfl a b c)) (λa b c=>(pS _ _ _ rfl a b c)) (λa=>(bI _ rfl a)) (λa b=>(i7 _ _ rfl a b)) λa=>(bI _ rfl a)
def rI(h:VR W B ρ (.int i) u):∃t,u= .int i t:=vI h
def my{s:List Nat}(h:VR W B ρ (.str s) u):∃t,u= .str (aO s) t:=vI h
def n5(h:VR W B ρ (.bool b) u):u= .bool b:=vI h
def AW(h:VR W B ρ .none u):u= .none:=vI h
def mV(h:VR W B ρ (.ref k) u):∃a,u= .ref a/\ρ[k]? =some a:=vI h
def Gy(h:VR W B ρ (.obj k) u):∃a,u= .ref a/\W.oa[k]? =some a:=vI h
def Dx(h:VR W B ρ (.U vs) u):∃a o its,u= .ref a/\B a=some o/\tn o its/\VRs W B ρ vs its:=vI h
def se(h:VR W B ρ (.a vs) u):∃a o its,u= .ref a/\B a=some o/\pO o its/\VRs W B ρ vs its:=vI h
def Nm{a b c:Int}(h:VR W B ρ (.rng a b c) u):∃l o,u= .ref l/\B l=some o/\v8 o a b c:=vI h
abbrev Tu(W:Wd)(B:BgT)(ρ:List Addr)(xs:List AV)(us:List Value):Prop:=aw (motive:=λzz=>Prop) xs (us= []) λx xs=> ∃u vs,us=u::vs/\VR W B ρ x u/\VRs W B ρ xs vs
def R5(h:VRs W B ρ xs us):Tu W B ρ xs us:=VRs.casesOn (motive_2:=λx u zz=>Tu W B ρ x u) h rfl λa b=>(i7 _ _ rfl a b)
def vt(h:VRs W B ρ [] us):us= []:=R5 h
def jm(h:VRs W B ρ (x::xs) us):∃u vs,us=u::vs/\VR W B ρ x u/\VRs W B ρ xs vs:=R5 h
@[elab_as_elim] theorem mS{k:Int->Option β}{G:Value->Prop}(h:fL x k=some r)(hv:VR W B ρ x u)(g:∀i t,k i=some r->G (.int i t)):G u:=by
 cases x using AV.casesOn with
 | int i=>obtain⟨t,e⟩:=rI hv;erw [e];exact g i t h
 | _=>exact dA h
@[elab_as_elim] theorem sx{k:List Nat->Option β}{G:Value->Prop}(h:iq x k=some r)(hv:VR W B ρ x u)(g:∀s t,k s=some r->G (.str (aO s) t)):G u:=by
 cases x using AV.casesOn with
 | str i=>obtain⟨t,e⟩:=my hv;erw [e];exact g i t h
 | _=>exact dA h
@[elab_as_elim] theorem Py{k:Bool->Option β}{G:Value->Prop}(h:tV x k=some r)(hv:VR W B ρ x u)(g:∀b,k b=some r->G (.bool b)):G u:=by
 cases x using AV.casesOn with
 | bool i=>erw [n5 hv];exact g i h
 | _=>exact dA h
@[elab_as_elim] theorem zG{k:Nat->Option β}{G:Value->Prop}(h:nC x k=some r)(hv:VR W B ρ x u)(g:∀j a,ρ[j]? =some a->k j=some r->G (.ref a)):G u:=by
 cases x using AV.casesOn with
 | ref i=>refine aM (mV hv) λa e ha=>?_;erw [e];exact g i a ha h
 | _=>exact dA h
@[elab_as_elim] theorem Ql{k:Int->Int->Int->Option β}{G:Value->Prop}(h:J0 x k=some r)(hv:VR W B ρ x u)(g:∀a b c l o,B l=some o->v8 o a b c->k a b c=some r->G (.ref l)):G u:=by
 cases x using AV.casesOn with
 | rng a b c=>refine dY (Nm hv) λl o e h1 h2=>?_;erw [e];exact g a b c l o h1 h2 h
 | _=>exact dA h
@[elab_as_elim] theorem Lk{k:Nat->Option β}{G:Int->Prop}(h:vj i k=some r)(g:∀n:Nat,k n=some r->G (n:Int)):G i:=by
 cases i using iu with
 | ofNat n=>exact g n h
 | negSucc zz=>exact dA h
@[elab_as_elim] theorem v0{k:Option β}{G:List Value->Prop}(h:FV xs k=some r)(hv:VRs W B ρ xs us)(g:k=some r->G []):G us:=by
 cases xs using aw with
 | nil=>erw [vt hv];exact g h
 | cons zz zy=>exact dA h
@[elab_as_elim] theorem v1{k:AV->Option β}{G:List Value->Prop}(h:qi xs k=some r)(hv:VRs W B ρ xs us)(g:∀x u,VR W B ρ x u->k x=some r->G [u]):G us:=by
 cases xs using aw with
 | nil=>exact dA h
 | cons x xs=>refine dY (jm hv) λu vs e h1 h2=>?_;erw [e];exact v0 (G:=λvs=>G (u::vs)) h h2 λh=>g x u h1 h
@[elab_as_elim] theorem v2{k:AV->AV->Option β}{G:List Value->Prop}(h:J1 xs k=some r)(hv:VRs W B ρ xs us)(g:∀x y u v,VR W B ρ x u->VR W B ρ y v->k x y=some r->G [u,v]):G us:=by
 cases xs using aw with
 | nil=>exact dA h
 | cons x xs=>refine dY (jm hv) λu vs e h1 h2=>?_;erw [e];exact v1 (G:=λvs=>G (u::vs)) h h2 λy v h3 h=>g x y u v h1 h3 h
@[elab_as_elim] theorem zR{xs:List α}{k:α->Option β}{G:List α->Prop}(h:qi xs k=some r)(g:∀c,k c=some r->G [c]):G xs:=by
 cases xs using aw with
 | nil=>exact dA h
 | cons x xs=>cases xs using aw with
  | nil=>exact g x h
  | cons zz zy=>exact dA h
def kE{o:Option β}{p:Prop}(h:eV b o=some r)(g:b=true->o=some r->p):p:=by
 induction b using aG
 ·exact dA h
 ·exact g rfl h
def nw{x y:Option β}{p:Prop}(h:cond b x y=some r)(g:b=true->x=some r->p)(g':b=false->y=some r->p):p:=by
 induction b using aG
 ·exact g' rfl h
 ·exact g rfl h
def je{x:Option α}{f:α->Option β}{p:Prop}(h:x.bind f=some r)(g:∀a,x=some a->f a=some r->p):p:=aM (cu.mp h) λa h1 h2=>g a h1 h2
def jZ{x:Option α}{f:α->β}{p:Prop}(h:x.map f=some r)(g:∀a,x=some a->f a=r->p):p:=aM (bL.mp h) λa h1 h2=>g a h1 h2
@[elab_as_elim] theorem gi{δ:Type}{a c:γ}{b d:δ}{G:γ->δ->Prop}(h:some (a,b)=some (c,d))(k:G a b):G c d:=by
 have:=af h
 erw [<- (aD this).1,<- (aD this).2]
 exact k
@[elab_as_elim] theorem oq{a c:γ}{G:γ->Prop}(h:some a=some c)(k:G a):G c:=af h ▸k
end
end
mutual
def Gk{γ:Type}{a c:γ}{G:γ->Prop}(h:some a=some c)(k:G c):G a:=af h ▸k
def Jx{M:Model}{α:Type}{A:Around}{t:Sem α}{Q:α->Shared->Prop}{E:Value->Shared->Prop}{s:Shared}(h:wpAny M A t Q (λzz zy=>False) s):wpAny M A t Q E s:=dO h (λzz zy q=>q) λzz zy e=>e.elim
def VRs.getA{W:Wd}{B:BgT}{ρ:List Addr}{vs:List Value}(r:VRs W B ρ xs vs){i:Nat}{x:AV}(h:xs[i]? =some x):∃v,vs.toArray[i]? =some v/\VR W B ρ x v:=aM (r.get h) λv a b=>⟨v,dI.trans a,b⟩
def VRs.getN{W:Wd}{B:BgT}{ρ:List Addr}{vs:List Value}(r:VRs W B ρ xs vs){i:Nat}(h:xs[i]? =none):vs.toArray[i]? =none:=dI.trans (fm.mpr (r.length ▸fm.mp h))
class inductive EntAre(W:Wd)(B:BgT)(ρ:List Addr):List (Nat×AV)->List DictEntry->Prop
 | nil:EntAre W B ρ [] []
 | cons {f:Nat} {n:Str} {v:AV} {u:Value} {h:Int} {t:Tok} {fs es}:W.nm[f]? =some n->VR W B ρ v u->EntAre W B ρ fs es->EntAre W B ρ ((f,v)::fs) (⟨h, .str n t,u⟩::es)
class inductive DEnt(W:Wd)(B:BgT)(ρ:List Addr):List (List Nat×AV)->List (Str×Value)->Prop
 | nil:DEnt W B ρ [] []
 | cons {k:List Nat} {v:AV} {u:Value} {fs es}:VR W B ρ v u->DEnt W B ρ fs es->DEnt W B ρ ((k,v)::fs) ((aO k,u)::es)
def EntAre.mono{W:Wd}{B B':BgT}{ρ ρ':List Addr}(h:Grow B ρ B' ρ'){x es}(r:EntAre W B ρ x es):EntAre W B' ρ' x es:=EntAre.rec (motive:=λx es zz=>EntAre W B' ρ' x es) .nil (λe v zz r=> .cons e (v.mono h) r) r
def DEnt.mono{W:Wd}{B B':BgT}{ρ ρ':List Addr}(h:Grow B ρ B' ρ'){x es}(r:DEnt W B ρ x es):DEnt W B' ρ' x es:=DEnt.rec (motive:=λx es zz=>DEnt W B' ρ' x es) .nil (λv zz r=> .cons (v.mono h) r) r
noncomputable abbrev Raws:=List (Addr×Obj)
inductive CellR(W:Wd)(B:BgT)(ρ:List Addr):Cell->Addr->Raws->Prop
 | list {a:Addr} {vs:List AV} {its:List Value} {n:Nat}:VRs W B ρ vs its->CellR W B ρ (.list vs) a [(a,listOf its.toArray n)]
 | n {a dx C:Addr} {c:Nat} {fs:List (Nat×AV)} {es:List DictEntry} {n:Nat}:W.cat c=some C->EntAre W B ρ fs es->CellR W B ρ (.n c fs) a [(a,instObj C dx),(dx,dictOf es n)]
 | dict {a:Addr} {ks:List (List Nat×AV)} {o:Obj} {kvs:List (Str×Value)}:o.IsDictOf (strKind W.prog W.w) kvs->DEnt W B ρ ks kvs->CellR W B ρ (.dict ks) a [(a,o)]
def CellR.mono{W:Wd}{B B':BgT}{ρ ρ':List Addr}(h:Grow B ρ B' ρ'){c:Cell}{a:Addr}{r:Raws}(x:CellR W B ρ c a r):CellR W B' ρ' c a r:=
 CellR.casesOn (motive:=λc a r zz=>CellR W B' ρ' c a r) x (λv=> .list (v.mono h)) (λe v=> .n e (v.mono h)) λi v=> .dict i (v.mono h)
class inductive Cells(W:Wd)(B:BgT)(ρ:List Addr):Hp->List Addr->Raws->Prop
 | nil:Cells W B ρ [] [] []
 | cons {c:Cell} {a:Addr} {r:Raws} {H as rs}:CellR W B ρ c a r->Cells W B ρ H as rs->Cells W B ρ (c::H) (a::as) (r++rs)
abbrev CI(W:Wd)(B:BgT)(ρ:List Addr)(c:Cell)(a:Addr)(r:Raws):Prop:=
 Cell.casesOn (motive:=λzz=>Prop) c (λvs=> ∃its n,r= [(a,listOf its.toArray n)]/\VRs W B ρ vs its) (λc fs=> ∃dx C es n,r= [(a,instObj C dx),(dx,dictOf es n)]/\W.cat c=some C/\EntAre W B ρ fs es)
  λks=> ∃o kvs,r= [(a,o)]/\o.IsDictOf (strKind W.prog W.w) kvs/\DEnt W B ρ ks kvs
def CellR.inv{W:Wd}{B:BgT}{ρ:List Addr}{c:Cell}{a:Addr}{r:Raws}(x:CellR W B ρ c a r):CI W B ρ c a r:=
 CellR.casesOn (motive:=λc a r zz=>CI W B ρ c a r) x (λv=>(kX _ _ rfl v)) (λe v=>(yi _ _ _ _ rfl e v)) λi v=>(i7 _ _ rfl i v)
def CellR.hd{W:Wd}{B:BgT}{ρ:List Addr}{c:Cell}{a:Addr}{r:Raws}(x:CellR W B ρ c a r):∃o,(a,o)∈r:=
 CellR.casesOn (motive:=λc a r zz=> ∃o,(a,o)∈r) x (λzz=>⟨_, .head _⟩) (λzz zy=>⟨_, .head _⟩) λzz zy=>⟨_, .head _⟩
def Cells.mono{W:Wd}{B B':BgT}{ρ ρ':List Addr}(h:Grow B ρ B' ρ'){H as rs}(r:Cells W B ρ H as rs):Cells W B' ρ' H as rs:=Cells.rec (motive:=λH as rs zz=>Cells W B' ρ' H as rs) .nil (λx zz r=> .cons (x.mono h) r) r
def Cells.length{W:Wd}{B:BgT}{ρ:List Addr}{H as rs}(r:Cells W B ρ H as rs):as.length=H.length:=Cells.rec (motive:=λH as zz zy=>as.length=H.length) rfl (λzz zy h=>congrArg (· +1) h) r
def Cells.snoc{W:Wd}{B:BgT}{ρ:List Addr}{c:Cell}{a:Addr}{r:Raws}(x:CellR W B ρ c a r){H as rs}(s:Cells W B ρ H as rs):Cells W B ρ (H++ [c]) (as++ [a]) (rs++r):=
 Cells.rec (motive:=λH as rs zz=>Cells W B ρ (H++ [c]) (as++ [a]) (rs++r)) (Eq.subst (motive:=λz=>Cells W B ρ [c] [a] z) (br r) (.cons x .nil)) (λy zz ih=>(aB ..).symm ▸.cons y ih) s
def Cells.at{W:Wd}{B:BgT}{ρ:List Addr}{H as rs}(s:Cells W B ρ H as rs):∀{i:Nat} {a:Addr},as[i]? =some a->∃o,(a,o)∈rs:=
 Cells.rec (motive:=λH as rs zz=> ∀{i:Nat} {a:Addr},as[i]? =some a->∃o,(a,o)∈rs) (λe=>nomatch e) (λy zz ih i=>by
  cases i using bM with
  | zero=>exact λe=>af e ▸y.hd.imp λzz h=>cU _ h
  | succ i=>exact λe=>(ih (i:=i) e).imp λzz h=>bC _ h) s
def Cells.nodup{W:Wd}{B:BgT}{ρ:List Addr}{H as rs}(s:Cells W B ρ H as rs):(rs.map (·.1)).Nodup->as.Nodup:=
 Cells.rec (motive:=λH as rs zz=>(rs.map (·.1)).Nodup->as.Nodup) (λzz=> .nil) (fun{c a r H as rs} y s ih nd=>by
  have n:=fb.mp (bc ▸nd);refine bS.mpr ⟨λq=>?_,ih n.2.1⟩;have⟨i,e⟩:=List.mem_iff_getElem?.mp q;have⟨o,h⟩:=s.at e;have⟨o',h'⟩:=y.hd;exact n.2.2 a (jJ h') a (jJ h) rfl) s
def Cells.split{W:Wd}{B:BgT}{ρ:List Addr}{H as rs}(s:Cells W B ρ H as rs):∀{k:Nat} {c:Cell},H[k]? =some c->
  ∃a r r1 r2,as[k]? =some a/\rs=r1++(r++r2)/\CellR W B ρ c a r/\∀c' r',CellR W B ρ c' a r'->Cells W B ρ (H.set k c') as (r1++(r'++r2)):=
 Cells.rec (motive:=λH as rs zz=> ∀{k:Nat} {c:Cell},H[k]? =some c->∃a r r1 r2,as[k]? =some a/\rs=r1++(r++r2)/\CellR W B ρ c a r/\∀c' r',CellR W B ρ c' a r'->Cells W B ρ (H.set k c') as (r1++(r'++r2)))
  (λe=>nomatch e) (fun{c a r H as rs} x s ih k=>by
  cases k using bM with
  | zero=>exact λe=>⟨a,r,[],rs,rfl,rfl,af e ▸x,λc' r' y=>show Cells W B ρ (c'::H) (a::as) (r'++rs)from .cons y s⟩
  | succ k=>exact λe=>w5 (ih (k:=k) e) λb q r1 r2 e1 e2 e3 e4=>⟨b,q,r++r1,r2,e1,(congrArg (r++·) e2).trans (aB ..).symm,e3,λc' r' y=>(aB ..).symm ▸.cons x (e4 c' r' y)⟩) s
structure St(B:BgT)(F rs:Raws)(h:Heap):Prop where
 keep:∀b o,B b=some o->h.get? b=some o
 frm:∀p∈F,h.get? p.1=some p.2/\B p.1=none
 got:∀p∈rs,h.get? p.1=some p.2/\B p.1=none/\p.1∉F.map (·.1)
 nod:(rs.map (·.1)).Nodup
 nodF:(F.map (·.1)).Nodup
abbrev RM(W:Wd)(B:BgT)(ρ:List Addr)(F:Raws)(H:Hp)(h:Heap):Prop:= ∃rs,St B F rs h/\Cells W B ρ H ρ rs
def Lm{p:Addr×Obj}(hp:p∈l):p.1∈l.map (·.1):=jJ hp
def qH{p:Addr×Obj}{a:Addr}(hp:p∈l)(q:p.1=a):a∈l.map (·.1):=q ▸Lm hp
def St.ext{B:BgT}{F rs:Raws}{h:Heap}(S:St B F rs h)(k:∀b o,h.get? b=some o->h'.get? b=some o):St B F rs h':=
 ⟨λb o e=>k b o (S.keep b o e),λp hp=>⟨k _ _ (S.frm p hp).1,(S.frm p hp).2⟩,λp hp=>⟨k _ _ (S.got p hp).1,(S.got p hp).2⟩,S.nod,S.nodF⟩
def St.free{B:BgT}{F rs:Raws}{h:Heap}(S:St B F rs h){a:Addr}(ha:h.get? a=none):B a=none/\a∉F.map (·.1)/\a∉rs.map (·.1):=by
 refine eD ?_ (λq=>?_) (λq=>?_)
 ·cases e:B a with
  | none=>rfl
  | some o=>rw[S.keep a o e]at ha;cases ha
 ·refine aM (cN.mp q) λp hp xq4=>?_;subst xq4;rw[(S.frm p hp).1]at ha;cases ha
 ·refine aM (cN.mp q) λp hp xq5=>?_;subst xq5;rw[(S.got p hp).1]at ha;cases ha
def St.allocD{B:BgT}{F rs:Raws}{h:Heap}(S:St B F rs h){a:Addr}{o:Obj}(ha:h.get? a=none)(k:∀b x,h.get? b=some x->h'.get? b=some x)(e:h'.get? a=some o):St (B.put a o) F rs h':=by
 refine kI (S.free ha) λn1 n2 n3=>?_;refine⟨λb x q=>?_,λp hp=>⟨k _ _ (S.frm p hp).1,?_⟩,λp hp=>(eD (k _ _ (S.got p hp).1) ?_ ((S.got p hp).2.2)),S.nod,S.nodF⟩
 ·unfold BgT.put at q
  split at q
  ·rename_i z;subst z;erw [e];exact q
  ·exact k _ _ (S.keep b x q)
 ·erw [(vQ λq=>n2 (qH hp q))];exact(S.frm p hp).2
 ·erw [(vQ λq=>n3 (qH hp q))];exact(S.got p hp).2.1
def St.allocM{B:BgT}{F rs:Raws}{h:Heap}(S:St B F rs h){a:Addr}{o:Obj}(ha:h.get? a=none)(k:∀b x,h.get? b=some x->h'.get? b=some x)(e:h'.get? a=some o):St B F (rs++ [(a,o)]) h':=by
 refine kI (S.free ha) λn1 n2 n3=>?_;refine⟨λb x q=>k _ _ (S.keep b x q),λp hp=>⟨k _ _ (S.frm p hp).1,(S.frm p hp).2⟩,λp hp=>?_,?_,S.nodF⟩
 ·rcases dz.mp hp with hp | hp
  ·exact⟨k _ _ (S.got p hp).1,(S.got p hp).2⟩
  ·cases fD.mp hp;exact eD e n1 n2
 ·erw [bc]
  exact fb.mpr ⟨S.nod,by simp,λx hx y hy q=>by cases fD.mp hy;subst q;exact n3 hx⟩
def St.allocF{B:BgT}{F rs:Raws}{h:Heap}(S:St B F rs h){a:Addr}{o:Obj}(ha:h.get? a=none)(k:∀b x,h.get? b=some x->h'.get? b=some x)(e:h'.get? a=some o):St B ((a,o)::F) rs h':=by
 refine kI (S.free ha) λn1 n2 n3=>?_;refine⟨λb x q=>k _ _ (S.keep b x q),λp hp=>?_,λp hp=>(eD (k _ _ (S.got p hp).1) ((S.got p hp).2.1) ?_),S.nod,bS.mpr ⟨n2,S.nodF⟩⟩
 ·rcases aR.mp hp with rfl | hp
  ·exact⟨e,n1⟩
  ·exact⟨k _ _ (S.frm p hp).1,(S.frm p hp).2⟩
 ·erw [bp];rewrite [aR,not_or]
  exact⟨λq=>n3 (qH hp q),(S.got p hp).2.2⟩
def St.upd{B:BgT}{F r1 r2:Raws}{h:Heap}{d:Addr}{o:Obj}(S:St B F (r1++(d,o)::r2) h)(k:fe d h h')(e:h'.get? d=some o'):St B F (r1++(d,o')::r2) h':=by
 have hd:=S.got (d,o) (by simp);have nd:=S.nod;rw[bc,bp]at nd;have nd1:∀p∈r1,p.1≠d:=λp hp q=>(fb.mp nd).2.2 p.1 (Lm hp) d (.head _) q;have nd2:∀p∈r2,p.1≠d:=λp hp q=>(bS.mp (fb.mp nd).2.1).1 (qH hp q);refine⟨λb x q=>?_,λp hp=>⟨?_,(S.frm p hp).2⟩,λp hp=>?_,?_,S.nodF⟩
 ·exact(k.2 b (λz=>by rw[z,hd.2.1]at q;cases q)).trans (S.keep b x q)
 ·exact(k.2 p.1 (λz=>hd.2.2 (qH hp z))).trans (S.frm p hp).1
 ·rcases dz.mp hp with q | q
  ·have:=S.got p (cU _ q);exact⟨(k.2 p.1 (nd1 p q)).trans this.1,this.2⟩
  ·rcases aR.mp q with rfl | q
   ·exact⟨e,hd.2⟩
   ·have:=S.got p (bC _ (.tail _ q));exact⟨(k.2 p.1 (nd2 p q)).trans this.1,this.2⟩
 ·erw [bc,bp];exact nd
def St.updF{B:BgT}{F2 rs:Raws}{h:Heap}{L:Addr}{o:Obj}(S:St B (F1++(L,o)::F2) rs h)(k:fe L h h')(e:h'.get? L=some o'):St B (F1++(L,o')::F2) rs h':=by
 have hL:=S.frm (L,o) (by simp);have nd:=S.nodF;rw[bc,bp]at nd;have nd1:∀p∈F1,p.1≠L:=λp hp q=>(fb.mp nd).2.2 p.1 (Lm hp) L (.head _) q;have nd2:∀p∈F2,p.1≠L:=λp hp q=>(bS.mp (fb.mp nd).2.1).1 (qH hp q);refine⟨λb x q=>(k.2 b (λz=>by rw[z,hL.2]at q;cases q)).trans (S.keep b x q),λp hp=>?_,λp hp=>?_,S.nod,?_⟩
 ·rcases dz.mp hp with q | q
  ·have:=S.frm p (cU _ q);exact⟨(k.2 p.1 (nd1 p q)).trans this.1,this.2⟩
  ·rcases aR.mp q with rfl | q
   ·exact⟨e,hL.2⟩
   ·have:=S.frm p (bC _ (.tail _ q));exact⟨(k.2 p.1 (nd2 p q)).trans this.1,this.2⟩
 ·have:=S.got p hp;have hm:(F1++(L,o')::F2).map (·.1)=(F1++(L,o)::F2).map (·.1):=by simp
  refine eD ((k.2 p.1 (λz=>this.2.2 (by erw [z];simp))).trans this.1) this.2.1 (λq=>this.2.2 (hm ▸q))
 ·erw [bc,bp];exact nd
def St.uniq{B:BgT}{F rs:Raws}{h:Heap}(S:St B F rs h){a:Addr}{o:Obj}(x:(a,o)∈F)(y:(a,o')∈F):o=o':=by
 have e1:=(S.frm _ x).1;have e2:=(S.frm _ y).1
 try dsimp only at e1 e2
 rw[e1]at e2;exact af e2
def St.dropF{B:BgT}{F2 rs:Raws}{h:Heap}(S:St B (F1++F2) rs h):St B F2 rs h:=
 ⟨S.keep,λp hp=>S.frm p (bC _ hp),λp hp=>(eD ((S.got p hp).1) ((S.got p hp).2.1) (λq=>(S.got p hp).2.2 (by erw [bc];exact bC _ q))),S.nod,by have:=S.nodF;rw[bc]at this;exact(fb.mp this).2.1⟩
end
section
mutual
variable{a:Addr}{k c:Nat}{vs:List AV}{o:Obj}{ks:List (List Nat×AV)}{fs:List (Nat×AV)}
variable{W:Wd}{B:BgT}{ρ:List Addr}{F:Raws}{H:Hp}{h h':Heap}
def RM.ext(S:RM W B ρ F H h)(k:∀b o,h.get? b=some o->h'.get? b=some o):RM W B ρ F H h':=aM S λrs s c=>⟨rs,s.ext k,c⟩
def RM.len(S:RM W B ρ F H h):ρ.length=H.length:=aM S λrs s c=>c.length
def RM.keep(S:RM W B ρ F H h):∀b o,B b=some o->h.get? b=some o:=aM S λrs s c=>s.keep
def RM.frm(S:RM W B ρ F H h):∀p∈F,h.get? p.1=some p.2:=aM S λrs s c=>λp hp=>(s.frm p hp).1
def RM.allocD(R:RM W B ρ F H h)(ha:h.get? a=none)(k:∀b x,h.get? b=some x->h'.get? b=some x)(e:h'.get? a=some o):Grow B ρ (B.put a o) ρ/\RM W (B.put a o) ρ F H h':=by
 refine aM R λrs S C=>?_;have b:Grow B ρ (B.put a o) ρ:= .ofB ρ (.put (S.free ha).1);exact⟨b,rs,S.allocD ha k e,C.mono b⟩
def RM.allocF(R:RM W B ρ F H h)(ha:h.get? a=none)(k:∀b x,h.get? b=some x->h'.get? b=some x)(e:h'.get? a=some o):RM W B ρ ((a,o)::F) H h':=by
 refine aM R λrs S C=>?_;exact bI rs (S.allocF ha k e) C
def RM.dropF{F1:Raws}(R:RM W B ρ (F1++F) H h):RM W B ρ F H h:=aM R λrs S C=>⟨rs,S.dropF,C⟩
def RM.pushD(R:RM W B ρ F H h)(o:Obj)(hf:o.isFreed=false):Grow B ρ (B.put h.objs.size o) ρ/\RM W (B.put h.objs.size o) ρ F H (h.push o):=
 R.allocD (bQ (ay _)) (λzz zy e=>cH _ e) (dE _ hf)
def RM.newCell(R:RM W B ρ F H h){c:Cell}{r:Raws}(x:CellR W B (ρ++ [a]) c a r)(st:∀rs,St B F rs h->St B F (rs++r) h'):Grow B ρ B (ρ++ [a])/\RM W B (ρ++ [a]) F (H++ [c]) h':=by
 refine aM R λrs S C=>?_;exact⟨.push B ρ a,_,st rs S,Cells.snoc x (C.mono (.push B ρ a))⟩
def RM.newList(R:RM W B ρ F H h){its:List Value}(hv:VRs W B ρ vs its):RM W B (ρ++ [h.objs.size]) F (H++ [.list vs]) (h.push {cls:= .type "list",data:= .seq its.toArray}):=
 (R.newCell (.list (n:=0) (hv.mono (.push B ρ _))) λrs S=>S.allocM (bQ (ay _)) (λzz zy e=>cH _ e) (dE _ rfl)).2
def RM.newDict(R:RM W B ρ F H h):RM W B (ρ++ [h.objs.size]) F (H++ [.dict []]) (h.push {cls:= .type "dict",data:= .dict #[]}):=
 (R.newCell (.dict (kvs:= []) ⟨#[],0,(eD rfl rfl rfl),rfl,by intro e h;simp at h,Pairs.nil,List.nodup_nil⟩ .nil) λrs S=>S.allocM (bQ (ay _)) (λzz zy e=>cH _ e) (dE _ rfl)).2
def RM.listAt(R:RM W B ρ F H h)(e:H[k]? =some (.list vs)):
  ∃a its n,ρ[k]? =some a/\h.get? a=some (listOf its.toArray n)/\VRs W B ρ vs its/\B a=none/\
   ∀h' vs' its' n',fe a h h'->h'.get? a=some (listOf its'.toArray n')->VRs W B ρ vs' its'->RM W B ρ F (H.set k (.list vs')) h':=by
 refine aM R λrs S C=>?_;refine w5 (C.split e) λa r r1 r2 e1 e2 c g=>?_;refine gz (c.inv) λits n e3 v=>?_;have S:St B F (r1++(a,listOf its.toArray n)::r2) h:=(e2.trans (congrArg (λr=>r1++(r++r2)) e3)) ▸S;have hg:=S.got _ (bC r1 (.head r2));exact iR a its n e1 hg.1 v hg.2.1 (λh' vs' its' n' k e' v'=>(bI _ (S.upd k e') (g _ [_] (.list v'))))
def RM.dictAt(R:RM W B ρ F H h)(e:H[k]? =some (.dict ks)):
  ∃a o kvs,ρ[k]? =some a/\h.get? a=some o/\o.IsDictOf (strKind W.prog W.w) kvs/\DEnt W B ρ ks kvs/\B a=none/\
   ∀h' ks' o' kvs',fe a h h'->h'.get? a=some o'->o'.IsDictOf (strKind W.prog W.w) kvs'->DEnt W B ρ ks' kvs'->RM W B ρ F (H.set k (.dict ks')) h':=by
 refine aM R λrs S C=>?_;refine w5 (C.split e) λa r r1 r2 e1 e2 c g=>?_;refine dY (c.inv) λo kvs e3 i v=>?_;have S:St B F (r1++(a,o)::r2) h:=(e2.trans (congrArg (λr=>r1++(r++r2)) e3)) ▸S;have hg:=S.got _ (bC r1 (.head r2));exact LD a o kvs e1 hg.1 i v hg.2.1 (λh' ks' o' kvs' k e' i' v'=>(bI _ (S.upd k e') (g _ [_] (.dict i' v'))))
def RM.instAt(R:RM W B ρ F H h)(e:H[k]? =some (.n c fs)):
  ∃a dx C es n,ρ[k]? =some a/\W.cat c=some C/\h.get? a=some (instObj C dx)/\h.get? dx=some (dictOf es n)/\EntAre W B ρ fs es/\B a=none/\
   ∀h' fs' es' n',fe dx h h'->h'.get? dx=some (dictOf es' n')->EntAre W B ρ fs' es'->RM W B ρ F (H.set k (.n c fs')) h':=by
 refine aM R λrs S CC=>?_;refine w5 (CC.split e) λa r r1 r2 e1 e2 cc g=>?_;refine w6 (cc.inv) λdx C es n e3 hc v=>?_;have S:St B F (r1++(a,instObj C dx)::(dx,dictOf es n)::r2) h:=(e2.trans (congrArg (λr=>r1++(r++r2)) e3)) ▸S;have S2:St B F ((r1++ [(a,instObj C dx)])++(dx,dictOf es n)::r2) h:=(aB r1 [(a,instObj C dx)] _).symm ▸S;have hg:=S.got _ (bC r1 (.head _));exact EW a dx C es n e1 hc hg.1 ((S2.got _ (bC _ (.head _))).1) v hg.2.1 (λh' fs' es' n' k e' v'=>
  ⟨_,S2.upd k e',(aB r1 [(a,instObj C dx)] _).symm ▸g _ [(a,instObj C dx),(dx,dictOf es' n')] (.n hc v')⟩)
def RM.listA(R:RM W B ρ F H h)(ha:ρ[k]? =some a)(e:H[k]? =some (.list vs)):
  ∃its n,h.get? a=some (listOf its.toArray n)/\VRs W B ρ vs its/\B a=none/\
   ∀h' vs' its' n',fe a h h'->h'.get? a=some (listOf its'.toArray n')->VRs W B ρ vs' its'->RM W B ρ F (H.set k (.list vs')) h':=by
 refine vq (R.listAt e) λa' its n e1 r=>?_
 erw [af (ha.symm.trans e1)]
 exact uj its n r
def RM.dictA(R:RM W B ρ F H h)(ha:ρ[k]? =some a)(e:H[k]? =some (.dict ks)):
  ∃o kvs,h.get? a=some o/\o.IsDictOf (strKind W.prog W.w) kvs/\DEnt W B ρ ks kvs/\B a=none/\
   ∀h' ks' o' kvs',fe a h h'->h'.get? a=some o'->o'.IsDictOf (strKind W.prog W.w) kvs'->DEnt W B ρ ks' kvs'->RM W B ρ F (H.set k (.dict ks')) h':=by
 refine vq (R.dictAt e) λa' o kvs e1 r=>?_
 erw [af (ha.symm.trans e1)]
 exact uj o kvs r
def RM.instA(R:RM W B ρ F H h)(ha:ρ[k]? =some a)(e:H[k]? =some (.n c fs)):
  ∃dx C es n,W.cat c=some C/\h.get? a=some (instObj C dx)/\h.get? dx=some (dictOf es n)/\EntAre W B ρ fs es/\B a=none/\
   ∀h' fs' es' n',fe dx h h'->h'.get? dx=some (dictOf es' n')->EntAre W B ρ fs' es'->RM W B ρ F (H.set k (.n c fs')) h':=by
 refine Qd (R.instAt e) λa' dx C es n e1 r=>?_
 erw [af (ha.symm.trans e1)]
 exact QJ dx C es n r
def RM.inj(R:RM W B ρ F H h){i j:Nat}(x:ρ[i]? =some a)(y:ρ[j]? =some a):i=j:=
 aM R λzz S C=>(List.getElem?_inj (aU.mp x).1 (C.nodup S.nod)).mp (x.trans y.symm)
end
end
mutual
structure Rest(s s':Shared):Prop where
 gens:s'.gens=s.gens
 drawn:s'.drawn=s.drawn
 os:s'.os=s.os
def Rest.refl(s:Shared):Rest s s:=⟨rfl,rfl,rfl⟩
def Rest.trans{s s' s'':Shared}(x:Rest s s')(y:Rest s' s''):Rest s s'':=⟨y.1.trans x.1,y.2.trans x.2,y.3.trans x.3⟩
structure AOk(A:Around)(d:Nat):Prop where
 handled:A.handled=none
 depth:A.depth+2*d<=960
 units:A.units+16*d<=9000
abbrev gw(W:Wd)(B:BgT):Prop:= ∀b o,W.base.get? b=some o->B b=some o
def gw.mono{W:Wd}{B B':BgT}(h:gw W B)(k:Gi B B'):gw W B':=λb o e=>k b o (h b o e)
def RM.base{W:Wd}{B:BgT}{ρ:List Addr}{F:Raws}{H:Hp}{h:Heap}(hB:gw W B)(R:RM W B ρ F H h):∀b o,W.base.get? b=some o->h.get? b=some o:=λb o e=>R.keep b o (hB b o e)
abbrev vp(o:Obj)(m:Str->Option Value):Prop:= ∃es ep,o.data= .dict es ep/\StrKeys es/\∀name,nsFind es name=m name
structure EnvOk(cx:CX)(env:Env):Prop where
 scope:env.scope=cx.scope
 globals:env.globals=mainGlobals
 builtins:env.builtins=builtinsNs
 kind:cx.scope.kind= .function
 cells:∀x,cx.scope.names.lookup x=some .cell->∃c,env.cells.lookup x=some c
structure CXOk(W:Wd)(cx:CX):Prop where
 glob:cx.glob=W.glob
 nm:cx.nm=W.nm
 inj:∀x y i,cx.slots.lookup x=some i->cx.slots.lookup y=some i->x=y
 lt:∀x i,cx.slots.lookup x=some i->i<cx.nxt
abbrev ur(F:Raws)(env:Env)(m:Str->Option Value)(x:Str)(v:Option Value):Prop:=
 (env.kindOf x=some .local/\m x=v)\/((env.kindOf x=some .cell\/env.kindOf x=some .free)/\∃c o,env.cells.lookup x=some c/\(c,o)∈F/\o.data= .cell v)
abbrev pf(W:Wd)(B:BgT)(ρ:List Addr)(F:Raws)(env:Env)(cx:CX)(ls:Ls):Prop:=
 ∃o m,(env.locals,o)∈F/\vp o m/\∀x i av,cx.slots.lookup x=some i->ls[i]? =some (some av)->∃u,ur F env m x (some u)/\VR W B ρ av u
abbrev j2(W:Wd)(B:BgT)(ρ:List Addr)(fr:Raws)(env:Env)(cx:CX)(ls:Ls):Prop:=
 ∃o m,(env.locals,o)∈fr/\vp o m/\(∀(x y:Str) (c:Addr),env.cells.lookup x=some c->env.cells.lookup y=some c->x=y)/\
  (∀x,env.kindOf x≠some .free)/\∀x i,cx.slots.lookup x=some i->∃v,ur fr env m x v/\∀av,ls[i]? =some (some av)->∃u,v=some u/\VR W B ρ av u
end
section
mutual
variable{F':Raws}
variable{W:Wd}{B B':BgT}{ρ ρ':List Addr}{F:Raws}{env:Env}{cx:CX}{ls:Ls}
def pf.mono(g:Grow B ρ B' ρ')(h:pf W B ρ F env cx ls):pf W B' ρ' F env cx ls:=
 dY h λo m a b c=>
 (i7 o m a b (λx i av e1 e2=>aM (c x i av e1 e2) λu p q=>⟨u,p,q.mono g⟩))
def j2.mono(g:Grow B ρ B' ρ')(h:j2 W B ρ F env cx ls):j2 W B' ρ' F env cx ls:=
 uc h λo m a b c d e=>
 (CG o m a b c d (λx i e1=>aM (e x i e1) λv p q=>⟨v,p,λav e2=>aM (q av e2) λu y z=>⟨u,y,z.mono g⟩⟩))
def ur.sub{m:Str->Option Value}{x:Str}{v:Option Value}(h:∀p∈F,p∈F')(l:ur F env m x v):ur F' env m x v:=
 l.imp id fun⟨k,c,o,a,b,e⟩=>⟨k,c,o,a,h _ b,e⟩
def pf.sub(h:∀p∈F,p∈F')(f:pf W B ρ F env cx ls):pf W B ρ F' env cx ls:=
 dY f λo m a b c=>
 (i7 o m (h _ a) b (λx i av e1 e2=>aM (c x i av e1 e2) λu p q=>⟨u,p.sub h,q⟩))
def j2.frm{fr:Raws}(h:j2 W B ρ fr env cx ls):pf W B ρ (fr++F) env cx ls:=
 uc h λo m a b c d e=>
 ⟨o,m,cU _ a,b,λx i av e1 e2=>aM (e x i e1) λv p q=>aM (q av e2) λu y z=>⟨u,y ▸p.sub λzz=>cU _,z⟩⟩
end
end
mutual
abbrev PV(W:Wd)(B:BgT)(ρ:List Addr)(F:Raws)(s:Shared)(v:AV)(H':Hp)(u:Value)(s':Shared):Prop:=
 ∃B' ρ',Grow B ρ B' ρ'/\RM W B' ρ' F H' s'.heap/\Rest s s'/\VR W B' ρ' v u
abbrev UC(W:Wd)(B:BgT)(ρ:List Addr)(F:Raws)(s:Shared)(v:List AV)(H':Hp)(u:List Value)(s':Shared):Prop:=
 ∃B' ρ',Grow B ρ B' ρ'/\RM W B' ρ' F H' s'.heap/\Rest s s'/\VRs W B' ρ' v u
abbrev PB(W:Wd)(B:BgT)(ρ:List Addr)(F:Raws)(s:Shared)(b:Bool)(H':Hp)(u:Bool)(s':Shared):Prop:=
 ∃B' ρ',Grow B ρ B' ρ'/\RM W B' ρ' F H' s'.heap/\Rest s s'/\u=b
abbrev PU(W:Wd)(B:BgT)(ρ:List Addr)(F:Raws)(s:Shared)(H':Hp)(u:Unit)(s':Shared):Prop:=
 ∃B' ρ',Grow B ρ B' ρ'/\RM W B' ρ' F H' s'.heap/\Rest s s'
abbrev fh:Value->Shared->Prop:=λzz zy=>False
abbrev Tx(W:Wd)(d:Nat)(cx:CX)(ls:Ls)(H:Hp){α:Type}(t:Env->Sem α)(P:BgT->List Addr->Raws->Shared->α->Shared->Prop):Prop:=
 ∀(A:Around) (B:BgT) (ρ:List Addr) (F:Raws) (env:Env) (s:Shared),AOk A d->gw W B->EnvOk cx env->pf W B ρ F env cx ls->RM W B ρ F H s.heap->
  wpAny W.M A (t env) (P B ρ F s) fh s
noncomputable abbrev TE(W:Wd)(d:Nat)(cx:CX)(ls:Ls)(H:Hp)(e:Expr)(v:AV)(H':Hp):Prop:=Tx W d cx ls H (eval e) λB ρ F s=>PV W B ρ F s v H'
noncomputable abbrev TB(W:Wd)(d:Nat)(cx:CX)(ls:Ls)(H:Hp)(e:Expr)(b:Bool)(H':Hp):Prop:=Tx W d cx ls H (λenv=>isTrue e env (eval e env)) λB ρ F s=>PB W B ρ F s b H'
abbrev TL(W:Wd)(d:Nat)(cx:CX)(ls:Ls)(H:Hp)(es:List Expr)(vs:List AV)(H':Hp):Prop:=
 ∀pos:Pos,Tx W d cx ls H (λenv=>spliced (backTo pos (fT es env))) λB ρ F s=>UC W B ρ F s vs H'
abbrev Na(W:Wd)(d:Nat)(H:Hp)(x:AV){α:Type}(t:Value->Sem α)(P:BgT->List Addr->Raws->Shared->α->Shared->Prop):Prop:=
 ∀(A:Around) (B:BgT) (ρ:List Addr) (F:Raws) (s:Shared) (u:Value),AOk A d->gw W B->RM W B ρ F H s.heap->VR W B ρ x u->wpAny W.M A (t u) (P B ρ F s) fh s
abbrev r9(W:Wd)(d:Nat)(H:Hp)(x y:AV)(t:Value->Value->Sem Value)(v:AV)(H':Hp):Prop:=
 ∀(A:Around) (B:BgT) (ρ:List Addr) (F:Raws) (s:Shared) (a b:Value),AOk A d->gw W B->RM W B ρ F H s.heap->VR W B ρ x a->VR W B ρ y b->wpAny W.M A (t a b) (PV W B ρ F s v H') fh s
abbrev Gf(W:Wd)(d:Nat)(H:Hp)(xs:List AV)(t:List Value->Sem Value)(v:AV)(H':Hp):Prop:=
 ∀(A:Around) (B:BgT) (ρ:List Addr) (F:Raws) (s:Shared) (us:List Value),AOk A d->gw W B->RM W B ρ F H s.heap->VRs W B ρ xs us->wpAny W.M A (t us) (PV W B ρ F s v H') fh s
end
section
mutual
variable{s bA s':Shared}{F:Raws}{B b9:BgT}{A:Around}{ρ bu:List Addr}{env:Env}{k i:Nat}{Q:Value->Shared->Prop}{e:Expr}{b:Bool}{m:Str->Option Value}
variable{W:Wd}{d:Nat}{cx:CX}{ls:Ls}{H au aP dM H':Hp}
def PV.glue{v:AV}{u:Value}(g:Grow B ρ b9 bu)(r:Rest s bA)(h:PV W b9 bu F bA v H' u s'):PV W B ρ F s v H' u s':=
 fy h λB' ρ' a b c e=>⟨B',ρ',g.trans a,b,r.trans c,e⟩
def PB.glue{v:Bool}{u:Bool}(g:Grow B ρ b9 bu)(r:Rest s bA)(h:PB W b9 bu F bA v H' u s'):PB W B ρ F s v H' u s':=
 fy h λB' ρ' a b c e=>⟨B',ρ',g.trans a,b,r.trans c,e⟩
def lA{α:Type}{t:Sem α}{P:α->Shared->Prop}{Q:α->Shared->Prop}(h:wpAny W.M A t P fh s)(k:∀u s',P u s'->Q u s'):wpAny W.M A t Q fh s:=dO h k λzz zy e=>e
def TE.go{v:AV}(h:TE W d cx ls H e v H')(hA:AOk A d)(hB:gw W B)(hE:EnvOk cx env)(hF:pf W B ρ F env cx ls)(hR:RM W B ρ F H s.heap)
  (k:∀B' ρ' u s',Grow B ρ B' ρ'->gw W B'->pf W B' ρ' F env cx ls->RM W B' ρ' F H' s'.heap->Rest s s'->VR W B' ρ' v u->Q u s'):wpAny W.M A (eval e env) Q fh s:=
 dO (h A B ρ F env s hA hB hE hF hR) (λu s' xq1=>fy xq1 λB' ρ' g R r z=>k B' ρ' u s' g (hB.mono g.b) (hF.mono g) R r z) λzz zy e=>e
def TL.go{es:List Expr}{vs:List AV}(h:TL W d cx ls H es vs H'){pos:Pos}{Q:List Value->Shared->Prop}(hA:AOk A d)(hB:gw W B)(hE:EnvOk cx env)(hF:pf W B ρ F env cx ls)(hR:RM W B ρ F H s.heap)
  (k:∀B' ρ' u s',Grow B ρ B' ρ'->gw W B'->pf W B' ρ' F env cx ls->RM W B' ρ' F H' s'.heap->Rest s s'->VRs W B' ρ' vs u->Q u s'):wpAny W.M A (spliced (backTo pos (fT es env))) Q fh s:=
 dO (h pos A B ρ F env s hA hB hE hF hR) (λu s' xq2=>fy xq2 λB' ρ' g R r z=>k B' ρ' u s' g (hB.mono g.b) (hF.mono g) R r z) λzz zy e=>e
def TB.go(h:TB W d cx ls H e b H'){Q:Bool->Shared->Prop}(hA:AOk A d)(hB:gw W B)(hE:EnvOk cx env)(hF:pf W B ρ F env cx ls)(hR:RM W B ρ F H s.heap)
  (k:∀B' ρ' s',Grow B ρ B' ρ'->gw W B'->pf W B' ρ' F env cx ls->RM W B' ρ' F H' s'.heap->Rest s s'->Q b s'):wpAny W.M A (isTrue e env (eval e env)) Q fh s:=
 dO (h A B ρ F env s hA hB hE hF hR) (λu s' xq3=>fy xq3 λB' ρ' g R r z=>by subst z;exact k B' ρ' s' g (hB.mono g.b) (hF.mono g) R r) λzz zy e=>e
def St.ns{rs:Raws}{h:Heap}{L:Addr}{o:Obj}(S:St B F rs h)(hL:(L,o)∈F)(N:vp o m):h.Ns L m:=
 dY N λes ep e1 e2 e3=>
 (pS o es ep ((S.frm _ hL).1) e1 e2 e3)
def ur.load{x:Str}{v:Value}{E:Value->Shared->Prop}(hk:env.scope.kind= .function)(hp:(x==("__classdict__":Str))=false)
  (hL:s.heap.Ns env.locals m)(hfr:∀p∈F,s.heap.get? p.1=some p.2)(l:ur F env m x (some v))(h:Q v s):wpAny W.M A (loadName env x) Q E s:=by
 rcases l with⟨k,e⟩ | ⟨k | k,c,o,hc,hm,hd⟩
 ·exact wpAny_loadName_local hk k hL e h
 ·exact wpAny_loadName_cell hk k hc (bI o (hfr _ hm) hd) h
 ·exact wpAny_loadName_free hk k hc (bI o (hfr _ hm) hd) h hp
def kQ{x:Str}(h:Ej x=false):(x==("__debug__":Str))=false/\(x==("__classdict__":Str))=false/\x≠("__name__":Str):=by
 have e1:Fm=("__debug__":Str):=by decide+kernel
 have e2:tP=("__classdict__":Str):=by decide+kernel
 have e3:Jy=("__name__":Str):=by decide+kernel
 unfold Ej at h;rw[eP,eP,e1,e2,e3]at h;exact eD h.1.1 h.1.2 (by simpa using h.2)
def jt{x:Str}(h:cx.slot x=some i):Ej x=false/\cx.slots.lookup x=some i:=by
 unfold CX.slot at h
 split at h
 ·cases h
 ·rename_i q
  refine⟨by simpa using q,?_⟩
  split at h <;> first | exact h | cases h
def Mw{x:Str}{pos:Pos}{v:AV}(hx':cx.slot x=some i)(hv:ls[i]? =some (some v)):TE W d cx ls H (.Name x pos) v H:=by
 intro A B ρ F env s hA hB hE hF hR;refine dY hF λo m hL N lo=>?_;obtain⟨ho,hx⟩:=jt hx';refine aM (lo x i v hx hv) λu l r=>?_;have pl:=kQ ho;refine aM (id hR) λrs S C=>?_;exact wpAny_Name (l.load (by erw [hE.scope];exact hE.kind) pl.2.1 (S.ns hL N) (λp hp=>(S.frm p hp).1) (d4 B ρ (.refl B ρ) hR (.refl s) r)) pl.1
def IZ{pos:Pos}:TE W d cx ls H (.Constant .none k pos) .none H:=λzz B ρ zy zx s zw zv zu zt hR=>wpAny_Constant_none (d4 B ρ (.refl B ρ) hR (.refl s) .none)
def I3{pos:Pos}:TE W d cx ls H (.Constant (.bool b) k pos) (.bool b) H:=λzz B ρ zy zx s zw zv zu zt hR=>wpAny_Constant_bool (d4 B ρ (.refl B ρ) hR (.refl s) .bool)
def MA{i:Int}{pos:Pos}:TE W d cx ls H (.Constant (.int i) k pos) (.int i) H:=λzz B ρ zy zx s zw zv zu zt hR=>wpAny_Constant_int (d4 B ρ (.refl B ρ) hR (⟨rfl,rfl,rfl⟩) .int)
def gZ(x:Str):aO x.cps.toList=x:=by induction x using Str.casesOn;rfl
def My{x:Str}{pos:Pos}:TE W d cx ls H (.Constant (.str x) k pos) (.str x.cps.toList) H:=λzz B ρ zy zx s zw zv zu zt hR=>
 wpAny_Constant_str ⟨B,ρ, .refl B ρ,hR,⟨rfl,rfl,rfl⟩,by have:=VR.str (W:=W) (B:=B) (ρ:=ρ) (s:=x.cps.toList) (t:=s.toks);rwa [gZ]at this⟩
inductive Gl(W:Wd)(x:Str)(v:Value):Prop
 | own (h:nsIn W.K mainGlobals x=some (some v))
 | builtin (h:nsIn W.K mainGlobals x=some none) (hb:bootBuiltins x=some v) (hn:x≠"__name__")
structure Wd.Top(W:Wd):Prop where
 X:W.K.In W.base
 T:TopRead W.p W.loose W.mg W.mb W.base
def Wd.Top.K(ok:W.Top){h:Heap}(k:∀b o,W.base.get? b=some o->h.get? b=some o):W.K.In h:=ok.X.keeps k
def kD(W1:W.Top){x:Str}{pos:Pos}{v:Value}(hE:EnvOk cx env)(hd:(x==("__debug__":Str))=false)(hg:Gl W x v)(hs:cx.scope.names.lookup x=some .globalImplicit)
  (k:∀b o,W.base.get? b=some o->s.heap.get? b=some o)(z:Q v s):wpAny W.M A (eval (.Name x pos) env) Q fh s:=by
 obtain⟨hsc,hgl,hbt,hk,_⟩:=hE;have hs':env.kindOf x=some .globalImplicit:=by unfold Env.kindOf;erw [hsc];exact hs
 have hk':env.scope.kind= .function:=by erw [hsc];exact hk
 cases hg using Gl.casesOn with
 | own e=>exact Name_function_global hk' hs' (loadGlobal_global (hgl ▸W1.T.g.keeps k) (mg_of W1.X W1.T.g e) z) hd
 | builtin e hb hn=>exact Name_function_global hk' hs' (loadGlobal_builtin (hgl ▸W1.T.g.keeps k) (mg_none_of W1.X W1.T.g e) (hbt ▸W1.T.b.keeps k) ((W1.T.builtins x hn).trans hb) z) hd
end
end
mutual
def dS{e:Expr}(h:cv e=true)(es:List Expr)(env:Env):fT (e::es) env=(false,eval e env)::fT es env:=by
 induction e using bE <;> first | rfl | exact ly h
def vE{es:List Expr}(h:es.all cv=true)(pos:Pos)(env:Env):(backTo pos (fT es env)).any (·.1)=false:=by
 induction es with
 | nil=>rfl
 | cons e es ih=>
  have h:=ae.mp h;exact dS h.1 es env ▸ih h.2
def kg{o:Expr}(h:iV o=true)(attr:Str)(env:Env)(whole:Sem Value):attributeBase o attr env whole=whole:=by
 cases o using bE with
 | Call f a k p=>cases f using bE with
  | Name=>rcases a with _ | ⟨_,_⟩ <;> rcases k with _ | ⟨_,_⟩ <;> first | rfl | exact ly h
  | _=>rfl
 | _=>rfl
end
section
mutual
variable{h:Heap}{f:Value}{es:List Expr}
variable{M:Model}{A:Around}{E:Value->Shared->Prop}{s:Shared}{env:Env}
abbrev lQ(M:Model)(h:Heap)(f:Value):Prop:=Looks M h (keeperOf f) .frame\/Looks M h (keeperOf f) .machine
def fU(id:String):lQ M h (.builtin id):= .inr (Looks.of_pure rfl)
def oR(id:String):lQ M h (.type id):= .inr (Looks.of_pure rfl)
def wt{pos:Pos}(hs:es.all cv=true){Q:Args->Shared->Prop}
  (h:wpAny M A (spliced (backTo pos (fT es env))) (λvs bA=>Q ⟨vs,[]⟩ bA) E s):wpAny M A (evalArgs f true (backTo pos (fT es env)) []) Q E s:=by
 cases es using aw with
 | nil=>exact aH (dO h (λvs bA i8=>aH (bK (bX (aH (bK (aH (bK (bK i8)))))))) λzz zy e=>e)
 | cons e es=>
  have e1:=dS (ae.mp hs).1 es env;generalize fT (e::es) env=l at e1 h |-
  subst e1;exact evalArgs_plain h
def fA{first:List Value}{pos apos:Pos}(hs:es.all cv=true){Q:Value->Shared->Prop}
  (h:wpAny M A (spliced (backTo apos (fT es env))) (λvs bA=>lQ M bA.heap f/\wpAny M A (call f (first++vs) []) Q E bA) E s):
  wpAny M A (callWith pos f first (backTo apos (fT es env)) []) Q E s:=by
 unfold callWith;refine aH (bX (wt hs (dO h (λvs bA i8=>aH (eh ?_)) λzz zy x=>x)));have hst:((backTo apos (fT es env)).any (·.1) || ([]:List (Option Str×Sem Value)).any (·.1.isNone))=false:=by rw[vE hs];rfl
 try dsimp only
 erw [hst]
 have tail:∀{t:Sem Value},wpAny M A t Q E bA->wpAny M A (t >>=λr=>holding [r] point >>=λzz=>pure r) Q E bA:=
  λht=>aH (dO ht (λr dR hr=>aH (bX (wpAny_point (bK hr)))) λzz zy x=>x);rcases i8.1 with k | k
 ·refine aH (k.here ?_)
  try dsimp only
  split
  ·exact tail i8.2
  ·exact tail (by unfold callMarked;exact Calls.wpAny_keep i8.2)
 ·refine aH (k.here ?_);exact tail i8.2
end
end
section
mutual
variable{x v y z:AV}{q:Bool}{e l b c r t o e':Expr}{es:List Expr}{ρ:List Addr}{B:BgT}{vs:List AV}{A:Around}{s:Shared}{u:Value}
variable{W:Wd}{d:Nat}{cx:CX}{ls:Ls}{H au aP dM H':Hp}
def F5:TL W d cx ls H [] [] H:=λpos A B ρ F env s hA hB hE hF hR=>wpAny_items_nil (d4 B ρ (.refl B ρ) hR (.refl s) .nil)
def wG(he:cv e=true)(h:TE W d cx ls H e v au)(h':TL W d cx ls au es vs H'):TL W d cx ls H (e::es) (v::vs) H':=by
 intro pos A B ρ F env s hA hB hE hF hR;show wpAny W.M A (spliced (backTo pos (fT (e::es) env))) _ _ _;rw[dS he];refine spliced_cons (h.go hA hB hE hF hR λb9 bu u bA cj di cR bY cf dZ=>h'.go hA di hE cR bY λfZ d8 us dR eE iJ jc eJ fH gU=>?_);exact d4 fZ d8 (cj.trans eE) eJ (cf.trans fH) (.cons (dZ.mono eE) gU)
def d0:10000000<=lB:=aj (ab rfl) (iB sizeLine_eq.symm)
def rk{n:Nat}(h:n<=1000000):n<=lB:=aj h (aj (ab rfl) d0)
def Mx{k:Nat}{pos:Pos}(h:TL W d cx ls H es vs H')(hl:vs.length<=1000000):TE W d cx ls H (.Tuple es k pos) (.U vs) H':=by
 intro A B ρ F env s hA hB hE hF hR;refine wpAny_Tuple (h.go hA hB hE hF hR λb9 bu u bA cj di cR bY cf dZ=>?_);have z:=bY.pushD (y9 u.toArray 0) rfl;exact⟨rk (dZ.length ▸hl),_,_,cj.trans z.1,z.2,cf.trans ⟨rfl,rfl,rfl⟩, .U kM ⟨rfl,_,rfl⟩ (dZ.mono z.1)⟩
def Bb{a:Addr}(h:ρ.length=H.length):VR W B (ρ++ [a]) (.ref H.length) (.ref a):= .ref (h ▸List.getElem?_concat_length ..)
def I1{pos:Pos}(h:TL W d cx ls H es vs H')(hl:vs.length<=1000000):TE W d cx ls H (.List es pos) (.ref H'.length) (H'++ [.list vs]):=by
 intro A B ρ F env s hA hB hE hF hR;refine wpAny_List (h.go hA hB hE hF hR λb9 bu u bA cj di cR bY cf dZ=>?_);exact⟨rk (dZ.length ▸hl),_,_,cj.trans (.push b9 bu _),bY.newList dZ,cf.trans ⟨rfl,rfl,rfl⟩,Bb bY.len⟩
def F7{pos:Pos}:TE W d cx ls H (.Dict [] [] pos) (.ref H.length) (H++ [.dict []]):=λA B ρ F env s hA hB hE hF hR=>
 eval_Dict_empty pos ▸aH (eh (wpAny_newObj_type (d4 _ _ (.push B ρ _) hR.newDict (⟨rfl,rfl,rfl⟩) (Bb hR.len))))
def MF{op:Operator}{pos:Pos}(h:TE W d cx ls H l x au)(h':TE W d cx ls au r y aP)(o:r9 W d aP x y (binaryOp op) v H'):TE W d cx ls H (.BinOp l op r pos) v H':=by
 intro A B ρ F env s hA hB hE hF hR;refine wpAny_BinOp (h.go hA hB hE hF hR λb9 bu a bA cj di cR bY cf dZ=>h'.go hA di hE cR bY λfZ d8 b dR eE iJ jc eJ fH gU=>?_);exact lA (o A fZ d8 F dR a b hA iJ eJ (dZ.mono eE) gU) λu s' z=>(z.glue eE fH).glue cj cf
def J2{op:UnaryOp}{pos:Pos}(h:TE W d cx ls H e x au)(o:Na W d au x (unaryOp op) λB ρ F s=>PV W B ρ F s v H'):TE W d cx ls H (.UnaryOp op e pos) v H':=by
 intro A B ρ F env s hA hB hE hF hR;refine wpAny_UnaryOp (h.go hA hB hE hF hR λb9 bu a bA cj di cR bY cf dZ=>?_);exact lA (o A b9 bu F bA a hA di bY dZ) λu s' z=>z.glue cj cf
def ME{op:CmpOp}{pos:Pos}(h:TE W d cx ls H l x au)(h':TE W d cx ls au r y aP)(o:r9 W d aP x y (dJ op) v H')(hm:cZ op r=false):TE W d cx ls H (.Compare l [op] [r] pos) v H':=by
 intro A B ρ F env s hA hB hE hF hR;refine wpAny_Compare1 (h.go hA hB hE hF hR λb9 bu a bA cj di cR bY cf dZ=>h'.go hA di hE cR bY λfZ d8 b dR eE iJ jc eJ fH gU=>?_) hm;exact lA (o A fZ d8 F dR a b hA iJ eJ (dZ.mono eE) gU) λu s' z=>(z.glue eE fH).glue cj cf
def MB{pos:Pos}(h:TB W d cx ls H t q au)(h':TE W d cx ls au (if q=true then b else o) v H'):TE W d cx ls H (.IfExp t b o pos) v H':=by
 intro A B ρ F env s hA hB hE hF hR;refine wpAny_IfExp (h.go hA hB hE hF hR λb9 bu bA cj di cR bY cf=>?_)
 induction q using aG <;> exact h'.go hA di hE cR bY λfZ d8 u dR eE iJ jc eJ fH gU=>(d4 fZ d8 (cj.trans eE) eJ (cf.trans fH) gU)
def MI{pos:Pos}{c:Bool}(h:TB W d cx ls H t q au)(h':TB W d cx ls au (if q=true then b else o) c H'):TB W d cx ls H (.IfExp t b o pos) c H':=by
 intro A B ρ F env s hA hB hE hF hR;refine isTrue_IfExp (h.go hA hB hE hF hR λb9 bu bA cj di cR bY cf=>?_)
 induction q using aG <;> exact lA (h' A b9 bu F env bA hA di hE cR bY) λzz zy z=>z.glue cj cf
noncomputable abbrev P8(W:Wd)(d:Nat)(H:Hp)(x:AV)(b:Bool):Prop:=Na W d H x truthy λB ρ F s=>PB W B ρ F s b H
def sm{M:Model}{E:Value->Shared->Prop}{Q:Bool->Shared->Prop}(t:gX x=some q)(hv:VR W B ρ x u)(k:Q q s):wpAny M A (truthy u) Q E s:=by
 cases x using AV.casesOn with
 | bool b=>exact n5 hv ▸wpAny_truthy_bool (af t ▸k)
 | _=>exact dA t
def rT{M:Model}{E:Value->Shared->Prop}{P R:Shared->Prop}(t:gX x=some true)(hv:VR W B ρ x u)(k:P s):wpAny M A (truthy u) (λc s'=>if c=true then P s' else R s') E s:=sm (Q:=λc s'=>if c=true then P s' else R s') t hv k
def vu{M:Model}{E:Value->Shared->Prop}{P R:Shared->Prop}(t:gX x=some false)(hv:VR W B ρ x u)(k:R s):wpAny M A (truthy u) (λc s'=>if c=true then P s' else R s') E s:=sm (Q:=λc s'=>if c=true then P s' else R s') t hv k
def Dy{b:Bool}:P8 W d H (.bool b) b:=λA B ρ F s u hA hB hR hv=>n5 hv ▸wpAny_truthy_bool (d4 B ρ (.refl B ρ) hR (.refl s) rfl)
def Kp{b:Bool}(h:gX x=some b):P8 W d H x b:=λA B ρ F s u hA hB hR hv=>sm h hv (d4 B ρ (.refl B ρ) hR (.refl s) rfl)
def MJ{op:CmpOp}{pos:Pos}(h:TE W d cx ls H l x au)(h':TE W d cx ls au r y aP)(o:r9 W d aP x y (dJ op) v H')(t:P8 W d H' v q)(hm:cZ op r=false):TB W d cx ls H (.Compare l [op] [r] pos) q H':=by
 intro A B ρ F env s hA hB hE hF hR;refine wpAny_isTrue_Compare1 (h.go hA hB hE hF hR λb9 bu a bA cj di cR bY cf dZ=>h'.go hA di hE cR bY λfZ d8 b dR eE iJ jc eJ fH gU=>?_) hm;refine lA (o A fZ d8 F dR a b hA iJ eJ (dZ.mono eE) gU) λu s' xq1=>fy xq1 λnZ j4 iy jH lC qt=>?_;exact lA (t A nZ j4 F s' u hA (iJ.mono iy.b) jH qt) λzz zy z=>((z.glue iy lC).glue eE fH).glue cj cf
def MG(h:TE W d cx ls H e v H')(t:P8 W d H' v q)
  (he:∀env whole,isTrue e env whole=(do let v <- whole;standAt e.pos;holding [v] (truthy v))):TB W d cx ls H e q H':=by
 intro A B ρ F env s hA hB hE hF hR;refine wpAny_isTrue_value (h.go hA hB hE hF hR λb9 bu a bA cj di cR bY cf dZ=>?_) (he _ _);exact lA (t A b9 bu F bA a hA di bY dZ) λzz zy z=>z.glue cj cf
def MH{pos:Pos}(h:TB W d cx ls H e q H'):TB W d cx ls H (.UnaryOp .Not e pos) (!q) H':=by
 intro A B ρ F env s hA hB hE hF hR;exact wpAny_isTrue_Not (h.go hA hB hE hF hR λb9 bu bA cj di cR bY cf=>(d4 b9 bu cj bY cf rfl))
def Lf(h:gX x=some q):Na W d H x (unaryOp .Not) λB ρ F s=>PV W B ρ F s (.bool (!q)) H:=λA B ρ F s u hA hB hR hv=>
 not_of (sm h hv (d4 B ρ (.refl B ρ) hR (.refl s) .bool))
def Lh{i:Int}:Na W d H (.int i) (unaryOp .USub) λB ρ F s=>PV W B ρ F s (.int (-i)) H:=λA B ρ F s u hA hB hR hv=>
 (rI hv).elim λt e=>e ▸neg_int (d4 B ρ (.refl B ρ) hR (⟨rfl,rfl,rfl⟩) .int)
abbrev EO:BoolOp->Bool:=λo=>BoolOp.casesOn o false true
abbrev TC(W:Wd)(d:Nat)(cx:CX)(ls:Ls)(H:Hp)(op:BoolOp)(es:List Expr)(v:AV)(H':Hp):Prop:= ∀pos:Pos,TE W d cx ls H (.BoolOp op es pos) v H'
abbrev I5(W:Wd)(d:Nat)(cx:CX)(ls:Ls)(H:Hp)(op:BoolOp)(es:List Expr)(b:Bool)(H':Hp):Prop:=Tx W d cx ls H (λenv=>allTrue op es env) λB ρ F s=>PB W B ρ F s b H'
def F8{op:BoolOp}(h:TE W d cx ls H e v H'):TC W d cx ls H op [e] v H':=λpos=>h
def r7{op:BoolOp}(h:TE W d cx ls H e v H')(t:gX v=some (EO op)):TC W d cx ls H op (e::e'::es) v H':=by
 intro pos A B ρ F env s hA hB hE hF hR
 cases op using BoolOp.casesOn with
 | And=>exact BoolOp_and (h.go hA hB hE hF hR λb9 bu a bA cj di cR bY cf dZ=>vu t dZ (d4 b9 bu cj bY cf dZ))
 | Or=>exact BoolOp_or (h.go hA hB hE hF hR λb9 bu a bA cj di cR bY cf dZ=>rT t dZ (d4 b9 bu cj bY cf dZ))
def BW{op:BoolOp}(h:TE W d cx ls H e x au)(t:gX x=some (!EO op))(h':TC W d cx ls au op (e'::es) v H'):TC W d cx ls H op (e::e'::es) v H':=by
 intro pos A B ρ F env s hA hB hE hF hR
 cases op using BoolOp.casesOn with
 | And=>exact BoolOp_and (h.go hA hB hE hF hR λb9 bu a bA cj di cR bY cf dZ=>rT t dZ (lA (h' pos A b9 bu F env bA hA di hE cR bY) λzz zy z=>z.glue cj cf))
 | Or=>exact BoolOp_or (h.go hA hB hE hF hR λb9 bu a bA cj di cR bY cf dZ=>vu t dZ (lA (h' pos A b9 bu F env bA hA di hE cR bY) λzz zy z=>z.glue cj cf))
def qj{op:BoolOp}{pos:Pos}(h:TC W d cx ls H op es v H'):TE W d cx ls H (.BoolOp op es pos) v H':=h pos
def r8{op:BoolOp}{pos:Pos}(h:I5 W d cx ls H op es q H'):TB W d cx ls H (.BoolOp op es pos) q H':=λA B ρ F env s hA hB hE hF hR=>wpAny_isTrue_BoolOp (h A B ρ F env s hA hB hE hF hR)
def BX{op:BoolOp}:I5 W d cx ls H op [] (op== .And) H:=λA B ρ F env s hA hB hE hF hR=>bK (d4 B ρ (.refl B ρ) hR (.refl s) rfl)
def mu{op:BoolOp}(h:TB W d cx ls H e (EO op) H'):I5 W d cx ls H op (e::es) (EO op) H':=by
 intro A B ρ F env s hA hB hE hF hR
 cases op using BoolOp.casesOn with
 | And=>exact wpAny_allTrue_And_cons (h.go hA hB hE hF hR λb9 bu bA cj di cR bY cf=>(d4 b9 bu cj bY cf rfl))
 | Or=>exact wpAny_allTrue_Or_cons (h.go hA hB hE hF hR λb9 bu bA cj di cR bY cf=>(d4 b9 bu cj bY cf rfl))
def qY{op:BoolOp}{c:Bool}(h:TB W d cx ls H e (!EO op) au)(h':I5 W d cx ls au op es c H'):I5 W d cx ls H op (e::es) c H':=by
 intro A B ρ F env s hA hB hE hF hR
 cases op using BoolOp.casesOn with
 | And=>exact wpAny_allTrue_And_cons (h.go hA hB hE hF hR λb9 bu bA cj di cR bY cf=>lA (h' A b9 bu F env bA hA di hE cR bY) λzz zy z=>z.glue cj cf)
 | Or=>exact wpAny_allTrue_Or_cons (h.go hA hB hE hF hR λb9 bu bA cj di cR bY cf=>lA (h' A b9 bu F env bA hA di hE cR bY) λzz zy z=>z.glue cj cf)
def Rh{o o':CmpOp}{v:AV}(h:TE W d cx ls H l x au)(h':TE W d cx ls au b y aP)(op:r9 W d aP x y (dJ o) (.bool true) aP)(h'':TE W d cx ls aP c z dM)(op':r9 W d dM y z (dJ o') (.bool q) H')
  (hm:cZ o b=false)(hm':cZ o' c=false)(pos:Pos):TE W d cx ls H (.Compare l [o,o'] [b,c] pos) (.bool q) H':=by
 intro A B ρ F env s hA hB hE hF hR;refine Compare_chain (h.go hA hB hE hF hR λb9 bu a bA cj di cR bY cf dZ=>chain_link (h'.go hA di hE cR bY λfZ d8 u dR eE iJ jc eJ fH gU=>lA (op A fZ d8 F dR a u hA iJ eJ (dZ.mono eE) gU) λc' oB xq2=>fy xq2 λnZ j4 iy jH lC qt=>rT rfl qt ?_)) hm';exact chain_last (h''.go hA (iJ.mono iy.b) hE (jc.mono iy) jH λo8 kG t mA pT Mc wk nD vP Km=>lA (op' A o8 kG F mA u t hA Mc nD ((gU.mono iy).mono pT) Km) λc'' GI Qa=>(((Qa.glue pT vP).glue iy lC).glue eE fH).glue cj cf)
def IE{o o':CmpOp}(h:TE W d cx ls H l x au)(h':TE W d cx ls au b y aP)(op:r9 W d aP x y (dJ o) (.bool false) aP)
  (hm:cZ o b=false)(hm':cZ o' c=false)(pos:Pos):TE W d cx ls H (.Compare l [o,o'] [b,c] pos) (.bool false) aP:=by
 intro A B ρ F env s hA hB hE hF hR;exact Compare_chain (h.go hA hB hE hF hR λb9 bu a bA cj di cR bY cf dZ=>chain_link (h'.go hA di hE cR bY λfZ d8 u dR eE iJ jc eJ fH gU=>lA (op A fZ d8 F dR a u hA iJ eJ (dZ.mono eE) gU) λc' oB xq3=>fy xq3 λnZ j4 iy jH lC qt=>vu rfl qt (d4 nZ j4 ((cj.trans eE).trans iy) jH ((cf.trans fH).trans lC) qt))) hm'
def Qi{o o':CmpOp}{v:AV}(h:TE W d cx ls H l x au)(h':TE W d cx ls au b y aP)(op:r9 W d aP x y (dJ o) (.bool true) aP)(h'':TE W d cx ls aP c z dM)(op':r9 W d dM y z (dJ o') (.bool q) H')
  (hm:cZ o b=false)(hm':cZ o' c=false)(pos:Pos):TB W d cx ls H (.Compare l [o,o'] [b,c] pos) q H':=by
 intro A B ρ F env s hA hB hE hF hR;refine isTrue_chain (h.go hA hB hE hF hR λb9 bu a bA cj di cR bY cf dZ=>test_link (h'.go hA di hE cR bY λfZ d8 u dR eE iJ jc eJ fH gU=>lA (op A fZ d8 F dR a u hA iJ eJ (dZ.mono eE) gU) λc' oB xq4=>fy xq4 λnZ j4 iy jH lC qt=>rT rfl qt ?_)) hm';exact test_last (h''.go hA (iJ.mono iy.b) hE (jc.mono iy) jH λo8 kG t mA pT Mc wk nD vP Km=>lA (op' A o8 kG F mA u t hA Mc nD ((gU.mono iy).mono pT) Km) λc'' GI xq5=>fy xq5 λJd AQ yj yR zE Kl=>
  sm rfl Kl (d4 _ _ ((((cj.trans eE).trans iy).trans pT).trans yj) yR ((((cf.trans fH).trans lC).trans vP).trans zE) rfl))
def Gz{o o':CmpOp}(h:TE W d cx ls H l x au)(h':TE W d cx ls au b y aP)(op:r9 W d aP x y (dJ o) (.bool false) aP)
  (hm:cZ o b=false)(hm':cZ o' c=false)(pos:Pos):TB W d cx ls H (.Compare l [o,o'] [b,c] pos) false aP:=by
 intro A B ρ F env s hA hB hE hF hR;exact isTrue_chain (h.go hA hB hE hF hR λb9 bu a bA cj di cR bY cf dZ=>test_link (h'.go hA di hE cR bY λfZ d8 u dR eE iJ jc eJ fH gU=>lA (op A fZ d8 F dR a u hA iJ eJ (dZ.mono eE) gU) λc' oB xq6=>fy xq6 λnZ j4 iy jH lC qt=>vu rfl qt (d4 nZ j4 ((cj.trans eE).trans iy) jH ((cf.trans fH).trans lC) rfl))) hm'
end
end
section
mutual
variable{B:BgT}{ρ:List Addr}{q:Bool}{F:Raws}{x y:AV}{s s':Shared}{b:Int}{k:Nat}{vs:List AV}{t:Tok}{A:Around}
variable{W:Wd}{d:Nat}{H H':Hp}
def kF{a:Int}(h:fR a=true):gW a<=1024:=intBits_le (by
 unfold fR at h;have:=cM.mp h;exact this)
def E5{a:Int}(h:fR a=true)(h':fR b=true):IntMulOk a b:=by
 have x:=kF h;have y:=kF h';exact IntMulOk.of_bits (by exact aj x (ab rfl)) (by exact aj y (ab rfl))
def tI{a:Int}(h:fR b=true):Df a b=false:=by
 have:Nat.log2 b.natAbs<=1024:=by
  have y:=kF h
  unfold gW at y
  by_cases q:b=0
  ·subst q;simp
  ·simp only[beq_iff_eq,q,if_false]at y;exact d6 y
 unfold Df;simp only[Bool.and_eq_false_imp,decide_eq_true_eq];intro hy
 exfalso
 split at hy
 ·exact(Dk [] [] (.hn (eT (aI 300)) (aI 0) .ho) aS hy)
 ·exact(Dk [] [_,_] (.hn (eT (aI 300)) bh (.hn (f6 30 ai) az (.hn az (aI 1024) (.hn (eT (aI 300)) bh (.hn (eT (aI 300)) bh (.hn (eT (aI 300)) bh .ho)))))) aS hy (ug _ _) this hy hy hy)
def hU{i:Int}(hR:RM W B ρ F H s.heap)(hs:s'.heap=s.heap)(r:Rest s s'):PV W B ρ F s (.int i) H (.int i t) s':=⟨B,ρ, .refl B ρ,hs ▸hR,r, .int⟩
def dQ{b:Bool}(hR:RM W B ρ F H s.heap)(hs:s'.heap=s.heap)(r:Rest s s'):PV W B ρ F s (.bool b) H (.bool b) s':=⟨B,ρ, .refl B ρ,hs ▸hR,r, .bool⟩
def sT{x:List Nat}(hR:RM W B ρ F H s.heap)(hs:s'.heap=s.heap)(r:Rest s s'):PV W B ρ F s (.str x) H (.str (aO x) t) s':=⟨B,ρ, .refl B ρ,hs ▸hR,r, .str⟩
def HM(a:Int)(n:Nat):HN a n=a ^ n:=by
 cases a using iu with
 | ofNat m=>simp[HN]
 | negSucc m=>rfl
def Be(n:Nat):G7 n=2 ^ n:=by simp[G7]
abbrev Nn:O2->Operator
 | .add=> .Add | .sub=> .Sub | .mul=> .Mult | .fdiv=> .FloorDiv | .mod=> .Mod | .pow=> .Pow | .shl=> .LShift | .shr=> .RShift | .band=> .BitAnd
def FH{op:Operator}{o:O2}(h:Px op=some o):op=Nn o:=by
 induction op using Operator.casesOn <;> first | exact dA h | exact af h ▸rfl
def PO(h:(!decide (b=0))=true):b≠0:=λe=>by rw[decide_eq_true e]at h;exact ly h
def KZ{op:Operator}{o:O2}{a c:Int}(ho:Px op=some o)(h:ET o a b=some c):r9 W d H (.int a) (.int b) (binaryOp op) (.int c) H:=by
 intro A B ρ F s u v hA hB hR hu hv;obtain⟨t,e⟩:=rI hu;obtain⟨t',e'⟩:=rI hv
 erw [e,e',FH ho]
 cases o using O2.casesOn with
 | add=>exact oq h (add_int (hU hR rfl ⟨rfl,rfl,rfl⟩))
 | sub=>exact oq h (sub_int (hU hR rfl ⟨rfl,rfl,rfl⟩))
 | mul=>exact kE h λhf h=>oq h (mul_int (hU hR rfl ⟨rfl,rfl,rfl⟩) (E5 (ae.mp hf).1 (ae.mp hf).2))
 | mod=>exact kE h λhb h=>oq h (mod_int' (PO hb) (hU hR rfl ⟨rfl,rfl,rfl⟩))
 | band=>exact oq h (and_int (hU hR rfl ⟨rfl,rfl,rfl⟩))
 | fdiv=>exact kE h λhb h=>oq h (floordiv_int (PO (ae.mp hb).1) (hU hR rfl ⟨rfl,rfl,rfl⟩) (.inl (tI (ae.mp hb).2)))
 | shr=>
  refine kE h λhb h=>oq h ?_
  erw [Be]
  exact rshift_int (of_decide_eq_true hb) (hU hR rfl ⟨rfl,rfl,rfl⟩)
 | shl=>
  refine kE h λhb h=>oq h ?_;obtain⟨fa,hc⟩:=ae.mp hb;have hc:=of_decide_eq_true hc
  erw [Be]
  refine lshift_int hc.1 ?_ (hU hR rfl ⟨rfl,rfl,rfl⟩);have x:=kF fa
  (clear fa h hb ho e' e;lia)
 | pow=>
  refine kE h λhb h=>oq h ?_;obtain⟨fa,hc⟩:=ae.mp hb;have hc:=of_decide_eq_true hc
  erw [HM]
  refine pow_int hc.1 ?_ (hU hR rfl ⟨rfl,rfl,rfl⟩);have x:=kF fa;have:(gW a:Int)*b<=1024*64:=t9 (by exact bP.mpr x) hc.2 hc.1 (by exact(eC [] [] 0 (.ik 0) (.ik 1024) .ho aS));exact(eC [_] [] 0 (.iv 0) (.ik (2 ^ 27)) (.hz (.iv 0) (.im 1024 (.ik 64)) .ho) aS this)
def fg{n:Nat}(h:cG n=true):n<=1000000:=by unfold cG at h;exact ab h
def xd(x y:List Nat):aO x++aO y=aO (x++y):=by
 show Str.append _ _=_;simp[Str.append]
def cz(x:List Nat):(aO x).length=x.length:=by simp[Str.length]
def uK{x y:List Nat}(h:cG (x.length+y.length)=true):r9 W d H (.str x) (.str y) (binaryOp .Add) (.str (x++y)) H:=by
 intro A B ρ F s u v hA hB hR hu hv;obtain⟨t,e⟩:=my hu;obtain⟨t',e'⟩:=my hv
 erw [e,e']
 refine add_str (λt' tk=>xd x y ▸sT hR rfl ⟨rfl,rfl,rfl⟩) ?_
 erw [cz,cz]
 exact aj (fg h) (aj (ab rfl) d0)
def Ll(x:List Nat)(n:Int)(h:0<=n):Txt.mul (aO x) n=aO (cD n.toNat x).flatten:=by
 have go:∀(k:Nat) (acc:Array Nat),(cD k x.toArray).foldl (· ++·) acc=acc++(cD k x).flatten.toArray:=by
  intro k
  induction k with
  | zero=>intro acc;simp
  | succ k ih=>intro acc;erw [List.replicate_succ,List.foldl_cons,ih,List.replicate_succ,lj];simp
 unfold Txt.mul
 split
 ·have:n.toNat=0:=by lia
  erw [this];rfl
 ·split
  ·rename_i h1 h2
   simp only[Bool.or_eq_true,beq_iff_eq,cz]at h2;rcases h2 with h2 | h2
   ·subst h2;simp
   ·erw [List.length_eq_zero_iff.mp h2];simp
  ·congr 1
   erw [go];simp
def Cq{x:List Nat}{n:Int}(h:0<=n/\n<=1000)(h':cG (x.length*1000)=true):r9 W d H (.str x) (.int n) (binaryOp .Mult) (.str (cD n.toNat x).flatten) H:=by
 intro A B ρ F s u v hA hB hR hu hv;obtain⟨t,e⟩:=my hu;obtain⟨t',e'⟩:=rI hv
 erw [e,e']
 have hr:=fg h';have hn:x.length*n.toNat<=x.length*1000:=Nat.mul_le_mul_left _ (by exact(bP.mp (eC [_] [_] 0 (.ic ai) (.ic (aI 1000)) (.hz (.ic ai) (.iv 0) (.hz (.iv 0) (.ik 1000) .ho)) aS (wW (bV (eC [_] [] 0 (.ik 0) (.iv 0) (.hz (.ik 0) (.iv 0) .ho) aS h.1))) h.2)));refine SB.mul (eD ?_ (λh1 h2=>?_) (λh1 h2=>?_)) λt' k=>Ll x n h.1 ▸sT hR rfl ⟨rfl,rfl,rfl⟩
 ·simp only[eP,decide_eq_false_iff_not];exact⟨(λzz=>(Dk [_] [] (.hz (.ip (.iv 0) (.ik 1)) (.ik (-(2 ^ 63))) (.hz (.ik 0) (.iv 0) .ho)) (by kernel_rfl) zz h.1)),(λzz=>(Dk [_] [] (.hz (.ik (2 ^ 63)) (.iv 0) (.hz (.iv 0) (.ik 1000) .ho)) (by kernel_rfl) zz h.2))⟩
 ·erw [cz]
  have:(x.length:Int)<=(2 ^ 63-1) / n:=(Int.le_ediv_iff_mul_le (by exact(eC [_] [] 0 (.ip (.ik 0) (.ik 1)) (.iv 0) (.hz (.ik 1) (.iv 0) .ho) aS (jg.mp h1)))).mpr (by
   have:(x.length:Int)*n<=1000000*1000:=t9 (by exact(eC [] [_] 0 (.ic ai) (.ik 1000000) (.hn (TN ai 1000) cY .ho) aS hr)) h.2 h.1 (by exact(eC [] [] 0 (.ik 0) (.ik 1000000) .ho aS))
   exact(eC [_] [] 0 (.iv 0) (.ik ((2 ^ 63)-1)) (.hz (.iv 0) (.im 1000000 (.ik 1000)) .ho) aS this));exact(λzz=>(Dk [_] [_] (.hz (.ip (.iv 0) (.ik 1)) (.ic ai) (.hz (.ic ai) (.iv 0) .ho)) aS zz this))
 ·erw [cz]
  have:=d0;exact decide_eq_false (iA.mpr (aj hn (aj hr (aj (ab rfl) this))))
def zN{x y:Bool}:r9 W d H (.bool x) (.bool y) (binaryOp .Sub) (.int (yL x-yL y)) H:=by
 intro A B ρ F s u v hA hB hR hu hv
 erw [n5 hu,n5 hv]
 exact sub_bool (hU hR rfl ⟨rfl,rfl,rfl⟩)
def oK(hA:AOk A d):A.units+64<cLine:=by
 erw [cLine_is]
 exact fC (t8 (aj (bw ..) hA.units) 64) (ab rfl)
end
mutual
variable{B:BgT}{ρ:List Addr}{h:Heap}
/-- -/
theorem sR(k:∀b o,B b=some o->h.get? b=some o):∀(x:AV) (v:Value),VR W B ρ x v->∀(p:PyData),mX x=some p->∃as,Reads h v p as
 | .none,v,r,p,e=>by erw [AW r,<- af e];exact⟨_, .none⟩
 | .bool _,v,r,p,e=>by erw [n5 r,<- af e];exact⟨_, .bool _⟩
 | .int _,v,r,p,e=>by obtain⟨t,q⟩:=rI r;erw [q,<- af e];exact⟨_, .int _ _⟩
 | .str _,v,r,p,e=>by obtain⟨t,q⟩:=my r;erw [q,<- af e];exact⟨_, .str _ _⟩
 | .U vs,v,r,p,e=>by
  refine gT (Dx r) λa o its q e1 i r=>?_;refine jZ (show(toPDs vs).map PyData.tuple=some p from e) λxs hx hp=>?_;obtain⟨as,h2⟩:=readss_of k vs _ r xs hx;obtain⟨i1,n,i2⟩:=i
  erw [q,<- hp]
  exact⟨as, .tuple (k _ _ e1) i1 i2 h2⟩
 | .a _,v,r,p,e=>dA e
 | .obj _,v,r,p,e=>dA e
 | .rng _ _ _,v,r,p,e=>dA e
 | .ref _,v,r,p,e=>dA e
theorem readss_of(k:∀b o,B b=some o->h.get? b=some o):∀(x:List AV) (v:List Value),VRs W B ρ x v->∀(p:List PyData),toPDs x=some p->∃as,ReadsAll h v p as
 | [],v,r,p,e=>by erw [vt r,<- af e];exact⟨_, .nil⟩
 | x::xs,v,r,p,e=>by
  refine dY (jm r) λu us q r rs=>?_
  erw [q]
  unfold toPDs at e;cases e1:mX x with
  | none=>rw[e1]at e;exact dA e
  | some y=>
   cases e2:toPDs xs with
   | none=>rw[e1,e2]at e;exact dA e
   | some ys=>
    rw[e1,e2]at e;obtain⟨as,h1⟩:=sR k x _ r y e1;obtain⟨bs,h2⟩:=readss_of k xs _ rs ys e2;exact af e ▸⟨_, .cons h1 h2⟩
end
mutual
@[elab_as_elim] theorem yw{x y:Option PyData}{G:Bool->Prop}(h:CV x y=some q)(g:∀p r,x=some p->y=some r->SeqAt.shaped p=true->SeqAt.shaped r=true->G (PyData.eqv p r)):G q:=by
 cases x using bf with
 | none=>exact dA h
 | some p=>cases y using bf with
  | none=>exact dA h
  | some r=>
   unfold CV at h;cases hs:(SeqAt.shaped p && SeqAt.shaped r)with
   | false=>try dsimp only at h;rw[hs]at h;exact dA h
   | true=>try dsimp only at h;rw[hs]at h;exact oq h (g p r rfl rfl (ae.mp hs).1 (ae.mp hs).2)
def rM{H:Hp}(h:aF H k=some vs):H[k]? =some (.list vs):=by
 unfold aF at h
 split at h
 ·rename_i e;(replace h:=af h;subst h);exact e
 ·cases h
def JO{x y:List Nat}:((aO x).cps.toList==(aO y).cps.toList)=decide (x=y):=by
 show(x.toArray.toList==y.toArray.toList)=_;by_cases h:x=y
 ·subst h;simp
 ·simp[h]
def eB(hR:RM W B ρ F H s.heap){a:Addr}(e:aF H k=some vs)(ha:ρ[k]? =some a):∃its,s.heap.IsList a its.toArray/\VRs W B ρ vs its:=by
 refine gT (hR.listAt (rM e)) λa' its n p1 p2 p3 zz=>?_;rw[<- af (ha.symm.trans p1)]at p2;exact bI its (⟨_,p2,rfl,n,rfl⟩) p3
abbrev AJ(W:Wd)(d:Nat)(H:Hp)(x y:AV)(o o':CmpOp)(q:Bool):Prop:=
 ∀(A:Around) (B:BgT) (ρ:List Addr) (F:Raws) (s:Shared) (a b:Value),AOk A d->gw W B->RM W B ρ F H s.heap->VR W B ρ x a->VR W B ρ y b->
  wpAny W.M A (dJ o a b) (PV W B ρ F s (.bool q) H) fh s/\wpAny W.M A (dJ o' a b) (PV W B ρ F s (.bool (!q)) H) fh s
def BO{u v:Value}{p r:PyData}{as bs:List Addr}(hA:AOk A d)(hR:RM W B ρ F H s.heap)(r1:Reads s.heap u p as)(r2:Reads s.heap v r bs)(sp:SeqAt.shaped p=true)(sr:SeqAt.shaped r=true):
  wpAny W.M A (dJ .Eq u v) (PV W B ρ F s (.bool (PyData.eqv p r)) H) fh s/\wpAny W.M A (dJ .NotEq u v) (PV W B ρ F s (.bool (!(PyData.eqv p r))) H) fh s:=
 ⟨eq_dataH r1 r2 sp sr (oK hA) (dQ hR rfl (.refl s)),ne_dataH r1 r2 sp sr (oK hA) (dQ hR rfl (.refl s))⟩
def td{a:Addr}{p:PyData}(hR:RM W B ρ F H s.heap)(hc:aF H k=some vs)(ha:ρ[k]? =some a)(hp:(toPDs vs).map PyData.list=some p):∃as,Reads s.heap (.ref a) p as:=by
 refine aM (eB hR hc ha) λits xq1 h4=>?_;obtain⟨o,h1,h2,n,h3⟩:=xq1;refine jZ hp λxs hx e=>?_;obtain⟨as,h5⟩:=readss_of hR.keep _ _ h4 _ hx;exact e ▸⟨_, .list h1 h2 h3 h5⟩
def Js(h:Gj H x y=some q):AJ W d H x y .Eq .NotEq q:=by
 intro A B ρ F s u v hA hB hR hu hv
 cases x using AV.casesOn with
 | int a=>
  obtain⟨t,e⟩:=rI hu
  erw [e]
  exact mS h hv λb t' h=>oq h ⟨eq_int (dQ hR rfl (.refl s)),ne_int (dQ hR rfl (.refl s))⟩
 | str a=>
  obtain⟨t,e⟩:=my hu
  erw [e]
  exact sx h hv λb t' h=>oq h ⟨P.eq_str (JO ▸dQ hR rfl (.refl s)),P.ne_str (by rewrite [bne];erw [JO];exact dQ hR rfl (.refl s))⟩
 | U xs=>
  obtain⟨y1,e1⟩:∃ys,y= .U ys:=by induction y using AV.casesOn <;> first | exact⟨_,rfl⟩ | exact dA h
  rw[e1]at h hv;refine yw h λp r ep er sp sr=>?_;obtain⟨as,r1⟩:=sR hR.keep _ _ hu _ (show mX (.U xs)=some p from ep);obtain⟨bs,r2⟩:=sR hR.keep _ _ hv _ (show mX (.U y1)=some r from er);exact BO hA hR r1 r2 sp sr
 | ref i=>
  refine aM (mV hu) λa e ha=>?_
  erw [e]
  refine zG h hv λj b hb h=>je h λxs h1 h=>je h λys h2 h=>nw h (λzz h=>yw h λp r ep er sp sr=>?_) λhl h=>oq h ?_
  ·obtain⟨as,r1⟩:=td hR h1 ha ep;obtain⟨bs,r2⟩:=td hR h2 hb er;exact BO hA hR r1 r2 sp sr
  ·refine aM (eB hR h1 ha) λits l1 q1=>?_;refine aM (eB hR h2 hb) λits' l2 q2=>?_;have hsz:(its.toArray.size !=its'.toArray.size)=true:=bne_iff_ne.mpr λe=>Nat.ne_of_beq_eq_false hl (q1.length.symm.trans (Eq.trans e q2.length));have hu':A.units<cLine:=fC (bw _ _) (oK hA);exact⟨SeqAt.eq_list_lengthsAt l1 l2 hsz hu' (dQ hR rfl (.refl s)),SeqAt.RcNeAt.lists_lengths l1 l2 hsz hu' _ _ _ _ (dQ hR rfl (.refl s))⟩
 | _=>exact dA h
def Bq{i j:Nat}(h:i≠j):aX i j=false:=by
 cases q:aX i j with
 | false=>rfl
 | true=>exact absurd (aW q) h
structure Wd.Objs(W:Wd):Prop where
 at_:∀(i:Nat) (a:Addr),W.oa[i]? =some a->∃o,W.base.get? a=some o/\o.cls≠ .type "tuple"
 inj:∀(i j:Nat) (a:Addr),W.oa[i]? =some a->W.oa[j]? =some a->i=j
def tR{h:Heap}(hR:RM W B ρ F H h){a:Addr}(e:ρ[k]? =some a):∃o,h.get? a=some o/\o.cls≠ .type "tuple"/\B a=none:=by
 obtain⟨hi,_⟩:=aU.mp e;rw[hR.len]at hi;have hc:H[k]? =some H[k]:=aU.mpr ⟨hi,rfl⟩;cases q:H[k]with
 | list vs=>refine jX (hR.listAt (hc.trans (by erw [q];rfl))) λb zz zy p o zx r zw=>?_;rw[e]at p;(replace p:=af p;subst p);exact eH _ o (by simp) r
 | n c fs=>refine w2 (hR.instAt (hc.trans (by erw [q];rfl))) λb zz zy zx zw p zv o zu zt r zs=>?_;rw[e]at p;(replace p:=af p;subst p);exact eH _ o (by simp) r
 | dict fs=>refine Gn (hR.dictAt (hc.trans (by erw [q];rfl))) λb zz zy p o xq2 zx r zw=>?_;refine gz xq2 λzz zy ex zx=>?_;rw[e]at p;(replace p:=af p;subst p);exact eH _ o (by erw [ex.1];simp) r
end
section
mutual
variable{a:Addr}
variable{A:Around}{B:BgT}{ρ:List Addr}{F:Raws}{s:Shared}(hR:RM W B ρ F H s.heap)
include hR
def By{i:Nat}:wpAny W.M A (dJ .Is (.ref a) (.ref a)) (PV W B ρ F s (.bool (aX i i)) H) fh s/\wpAny W.M A (dJ .IsNot (.ref a) (.ref a)) (PV W B ρ F s (.bool (!aX i i)) H) fh s:=by
 erw [fW]
 exact⟨wpAny_is_ref_self (dQ hR rfl (.refl _)),wpAny_isNot_ref_self (dQ hR rfl (.refl _))⟩
def rV{b:Addr}{oa ob:Obj}(hne:a≠b)(h1:s.heap.get? a=some oa)(h2:s.heap.get? b=some ob)(hc:oa.cls≠ .type "tuple"):wpAny W.M A (dJ .Is (.ref a) (.ref b)) (PV W B ρ F s (.bool false) H) fh s/\wpAny W.M A (dJ .IsNot (.ref a) (.ref b)) (PV W B ρ F s (.bool true) H) fh s:=
 ⟨wpAny_is_ref_other hne h1 h2 hc (dQ hR rfl (.refl _)),wpAny_isNot_ref_other hne h1 h2 hc (dQ hR rfl (.refl _))⟩
def tm{u v:Value}(hp:plainIs u v=true)(hne:u≠v):wpAny W.M A (dJ .Is u v) (PV W B ρ F s (.bool false) H) fh s/\wpAny W.M A (dJ .IsNot u v) (PV W B ρ F s (.bool true) H) fh s:=
 ⟨wpAny_is_other hp hne (dQ hR rfl (.refl _)),wpAny_isNot_other hp hne (dQ hR rfl (.refl _))⟩
end
end
mutual
def Jq(O:W.Objs)(h:Dl x y=some q):AJ W d H x y .Is .IsNot q:=by
 intro A B ρ F s u v hA hB hR hu hv
 cases y using AV.casesOn with
 | none=>
  refine oq h ?_
  erw [AW hv]
  have e:(u==Value.none)=mF x:=by induction hu using VR.casesOn <;> rfl
  exact⟨is_none (e ▸dQ hR rfl (.refl _)),isNot_none (e ▸dQ hR rfl (.refl _))⟩
 | obj j=>
  refine aM (Gy hv) λb e hb=>?_;refine aM (O.at_ _ _ hb) λo2 g2 c2=>?_
  erw [e]
  cases x using AV.casesOn with
  | none=>erw [AW hu];exact oq h (tm hR rfl (λe=>nomatch e))
  | bool zz=>erw [n5 hu];exact oq h (tm hR rfl (λe=>nomatch e))
  | int zz=>obtain⟨t,e⟩:=rI hu;erw [e];exact oq h (tm hR rfl (λe=>nomatch e))
  | str zz=>obtain⟨t,e⟩:=my hu;erw [e];exact oq h (tm hR rfl (λe=>nomatch e))
  | obj i=>
   refine aM (Gy hu) λa e ha=>?_;refine aM (O.at_ _ _ ha) λo1 g1 c1=>?_
   erw [e]
   refine oq h ?_;by_cases e:i=j
   ·subst e
    erw [af (ha.symm.trans hb)]
    exact By hR
   ·erw [Bq e]
    exact rV hR (λq=>e (O.inj _ _ _ ha (q ▸hb))) (hR.base hB _ _ g1) (hR.base hB _ _ g2) c1
  | ref i=>
   refine aM (mV hu) λa e ha=>?_;refine dt (tR hR ha) λo1 g1 c1 n1=>?_
   erw [e]
   exact oq h (rV hR (λq=>dA (n1.symm.trans (q ▸hB _ _ g2))) g1 (hR.base hB _ _ g2) c1)
  | _=>exact dA h
 | ref j=>
  refine aM (mV hv) λb e hb=>?_;refine dt (tR hR hb) λo2 g2 c2 n2=>?_
  erw [e]
  cases x using AV.casesOn with
  | none=>erw [AW hu];exact oq h (tm hR rfl (λe=>nomatch e))
  | obj i=>
   refine aM (Gy hu) λa e ha=>?_;refine aM (O.at_ _ _ ha) λo1 g1 c1=>?_
   erw [e]
   exact oq h (rV hR (λq=>dA (n2.symm.trans (q ▸hB _ _ g1))) (hR.base hB _ _ g1) g2 c1)
  | ref i=>
   refine aM (mV hu) λa e ha=>?_;refine dt (tR hR ha) λo1 g1 c1 n1=>?_
   erw [e]
   refine oq h ?_;by_cases e:i=j
   ·subst e
    erw [af (ha.symm.trans hb)]
    exact By hR
   ·erw [Bq e]
    exact rV hR (λq=>e (hR.inj ha (q ▸hb))) g1 g2 c1
  | _=>exact dA h
 | _=>exact dA h
def vS{op:CmpOp}(h:zM (JW op) x y=some q):r9 W d H x y (dJ op) (.bool q) H:=λA B ρ F s u v hA hB hR hu hv=>mS h hu λa t h=>mS h hv λb t' h=>by
 cases op using CmpOp.casesOn with
 | Lt=>exact oq h (PyProof.Rows.lt_int (dQ hR rfl (.refl s)))
 | LtE=>exact oq h (PyProof.Rows.le_int (dQ hR rfl (.refl s)))
 | Gt=>exact oq h (PyProof.Rows.gt_int (dQ hR rfl (.refl s)))
 | GtE=>exact oq h (PyProof.Rows.ge_int (dQ hR rfl (.refl s)))
 | _=>exact dA h
def sA{x y:List Nat}(h:aO x=aO y):x=y:=congrArg (λw:Str=>w.cps.toList) h
def DJ(z x:List Nat):(aO z==aO x)=decide (z=x):=by
 by_cases e:z=x
 ·erw [e,decide_eq_true rfl];exact beq_self_eq_true _
 ·erw [decide_eq_false e];exact beq_eq_false_iff_ne.mpr λq=>e (sA q)
abbrev PQ(x:List Nat)(u:Value):Bool:=match u with
 | .str t _=>t==aO x
 | _=>false
def AY(x:List Nat):∀(vs:List AV) (us:List Value) (ys:List (List Nat)),VRs W B ρ vs us->gY vs=some ys->
  us.any (PQ x)=ys.any (λy=>decide (y=x))/\∀u∈us,∃y t,u= .str (aO y) t
 | [],us,ys,r,h=>by erw [vt r,<- af h];exact⟨rfl,λu hu=>nomatch hu⟩
 | v::vs,us,ys,r,h=>by
  refine dY (jm r) λu us' e r rs=>?_
  erw [e]
  cases v using AV.casesOn with
  | str z=>
   obtain⟨t,e'⟩:=my r;refine jZ (show(gY vs).map (z::·)=some ys from h) λys' hy e2=>?_;obtain⟨p,q⟩:=AY x vs us' ys' rs hy
   erw [e',<- e2,oZ,oZ,p]
   refine⟨?_,λu hu=>?_⟩
   ·erw [(show PQ x (.str (aO z) t)=decide (z=x)from DJ z x)];rfl
   ·rcases aR.mp hu with e | hu
    ·exact uj _ _ e
    ·exact q u hu
  | _=>exact dA h
def Jr(h:Oc x y=some q):AJ W d H x y .In .NotIn q:=λA B ρ F s u v hA hB hR hu hv=>sx h hu λx t h=>by
 cases y using AV.casesOn with
 | str w=>
  obtain⟨t',e⟩:=my hv
  erw [e]
  refine zR (show qi x (λc=>some (w.contains c))=some q from h) λc h=>oq h ?_;have e:(!(hV (aO w) ⟨#[c]⟩ 0 (aO w).length 1).isEmpty)=w.contains c:=by
   erw [StrLaws.found_one]
   simp
  exact⟨P.in_str (e ▸dQ hR rfl (.refl _)),P.notIn_str (by erw [<- e,Bool.not_not];exact dQ hR rfl (.refl _))⟩
 | U vs=>
  refine gT (Dx hv) λa o its e hb ht r=>?_
  erw [e]
  refine jZ (show(gY vs).map _=some q from h) λys hy e=>?_;obtain⟨p,qq⟩:=AY x vs its ys r hy;have hs:∀u∈its.toArray,∃z t',u= .str (aO z) t':=λu hu=>qq u (by simpa using hu);refine⟨SeqAt.in_tupleAt (PQ x) (eH _ (hR.keep _ _ hb) ht.1 ht.2) (λu hu=>?_) (by erw [List.any_toArray,p,e];exact dQ hR rfl (.refl _)),
   SeqAt.notIn_tupleAt (PQ x) (eH _ (hR.keep _ _ hb) ht.1 ht.2) (λu hu=>?_) (by erw [List.any_toArray,p,e];exact dQ hR rfl (.refl _))⟩
  all_goals
   refine y5 (hs u hu) λz t' e=>?_
   erw [e]
   exact SeqAt.EqAt.str_str _ _ _ _
 | _=>exact dA h
def AJ.pos{o o':CmpOp}(h:AJ W d H x y o o' q):r9 W d H x y (dJ o) (.bool q) H:=λA B ρ F s a b h1 h2 h3 h4 h5=>(h A B ρ F s a b h1 h2 h3 h4 h5).1
def AJ.neg{o o':CmpOp}(h:AJ W d H x y o o' q):r9 W d H x y (dJ o') (.bool (!q)) H:=λA B ρ F s a b h1 h2 h3 h4 h5=>(h A B ρ F s a b h1 h2 h3 h4 h5).2
def m6(O:W.Objs){op:CmpOp}(h:iI H (JW op) x y=some q):r9 W d H x y (dJ op) (.bool q) H:=by
 cases op using CmpOp.casesOn with
 | Eq=>exact(Js h).pos
 | NotEq=>exact jZ h λb hb e=>e ▸(Js hb).neg
 | Lt=>exact vS (op:= .Lt) h
 | LtE=>exact vS (op:= .LtE) h
 | Gt=>exact vS (op:= .Gt) h
 | GtE=>exact vS (op:= .GtE) h
 | Is=>exact(Jq O h).pos
 | IsNot=>exact jZ h λb hb e=>e ▸(Jq O hb).neg
 | In=>exact(Jr h).pos
 | NotIn=>exact jZ h λb hb e=>e ▸(Jr hb).neg
end
end
section
mutual
variable{s:Shared}{n k j:Nat}{F:Raws}{y x:AV}{a b:Addr}{its:List Value}{Q:Value->Shared->Prop}{i:Int}{o:Obj}{A:Around}{slice:Expr}
variable{W:Wd}{d:Nat}{H H' au aP dM:Hp}{cx:CX}{ls:Ls}
def yb{B:BgT}{ρ:List Addr}(hR:RM W B ρ F H s.heap)(hb:B a=some o)(ht:tn o its):IsTup s.heap a its.toArray:=Ki (ht.2) λn e=>⟨o,hR.keep _ _ hb,ht.1,n,e⟩
def nM{B:BgT}{ρ:List Addr}(hR:RM W B ρ F H s.heap)(hb:B a=some o)(ht:pO o its):s.heap.IsList a its.toArray:=Ki (ht.2) λn e=>⟨o,hR.keep _ _ hb,ht.1,n,e⟩
def AF{A:Around}{E:Value->Shared->Prop}{l:Addr}{vs ws:List Value}(hl:s.heap.IsList l vs.toArray)(hb:s.heap.IsList b ws.toArray)
  (hsz:vs.length+ws.length<=lB)
  (h:Q (.ref s.heap.objs.size) {s with heap:=s.heap.push {cls:= .type "list",data:= .seq (vs++ws).toArray}}):
  wpAny W.M A (binaryOp .Add (.ref l) (.ref b)) Q E s:=by
 obtain⟨xq1,ho,hc,n,hd⟩:=id hl;obtain⟨cls,dd,data,sl⟩:=xq1;obtain⟨xq2,ho2,hc2,n2,hd2⟩:=id hb;obtain⟨cls2,dd2,data2,sl2⟩:=xq2;simp only at hc hd hc2 hd2;subst hc hd hc2 hd2;have e:vs.toArray++ws.toArray=(vs++ws).toArray:=by simp
 refine concat_meets (bI _ ho rfl) ⟨_,ho2,rfl⟩ noFill_list_add seq_list_add PySem.F.slot_list_add PySem.F.entry_list_add (PySem.F.args_list_add_2 _ _) (list_addW l b vs.toArray ws.toArray n n2 dd dd2 sl sl2 (by simpa using hsz)) (eD ho ho2 ?_)
 erw [e]
 exact h
def tW{B:BgT}{ρ:List Addr}{jts:List Value}{xs ys:List AV}(hR:RM W B ρ F H s.heap)(p2:s.heap.IsList a its.toArray)(p3:VRs W B ρ xs its)(hb:s.heap.IsList b jts.toArray)(hy:VRs W B ρ ys jts)(h:cG (xs.length+ys.length)=true):
  wpAny W.M A (binaryOp .Add (.ref a) (.ref b)) (PV W B ρ F s (.ref H.length) (H++ [.list (xs++ys)])) fh s:=
 AF p2 hb (by erw [p3.length,hy.length];exact aj (fg h) (aj (ab rfl) d0)) (d4 B _ (.push B ρ _) (hR.newList (p3.append hy)) (⟨rfl,rfl,rfl⟩) (.ref (by erw [<- hR.len];simp)))
def yd{o:O2}(h:o.isAdd=true):o= .add:=by induction o using O2.casesOn <;> first | rfl | exact ly h
def EM{o:O2}(h:o.isSub=true):o= .sub:=by induction o using O2.casesOn <;> first | rfl | exact ly h
def EP{o:O2}(h:o.isMul=true):o= .mul:=by induction o using O2.casesOn <;> first | rfl | exact ly h
def zQ{v:AV}(h:((aF H k).bind λx=>(D5 H y).bind λz=>eV (cG (x.length+z.length)) (some (lN H (.list (x++z)))))=some (v,H')):r9 W d H (.ref k) y (binaryOp .Add) v H':=by
 intro A B ρ F s u w hA hB hR hu hv;refine aM (mV hu) λa e ha=>?_
 erw [e]
 refine je h λxs h1 h=>je h λys h2 h=>kE h λhr h=>gi (G:=λv H'=>wpAny W.M A (binaryOp .Add (.ref a) w) (PV W B ρ F s v H') fh s) h ?_;refine aM (eB hR h1 ha) λits p2 p3=>?_
 cases y using AV.casesOn with
 | a zz=>
  refine gT (se hv) λb o jts e q1 q2 q3=>?_
  erw [e]
  rw[af h2]at q3;exact tW hR p2 p3 (nM hR q1 q2) q3 hr
 | ref j=>
  refine aM (mV hv) λb e hb=>?_
  erw [e]
  refine aM (eB hR h2 hb) λjts q2 q3=>?_;exact tW hR p2 p3 q2 q3 hr
 | _=>exact dA h2
def La{op:Operator}{o:O2}{v:AV}(ho:Px op=some o)(h:nY o x y H=some (v,H')):r9 W d H x y (binaryOp op) v H':=by
 cases x using AV.casesOn with
 | int i=>
  cases y using AV.casesOn with
  | int j=>exact jZ h λk hk e=>gi (G:=λv H'=>r9 W d H _ _ _ v H') (congrArg some e) (KZ ho hk)
  | _=>exact dA h
 | bool x=>
  refine kE h λh1 h=>?_;rw[EM h1]at ho
  erw [FH ho]
  cases y using AV.casesOn with
  | bool y=>exact gi (G:=λv H'=>r9 W d H _ _ _ v H') h zN
  | _=>exact dA h
 | str x=>
  refine nw h (λh1 h=>?_) λzz h=>kE h λh1 h=>?_
  ·rw[yd h1]at ho
   erw [FH ho]
   cases y using AV.casesOn with
   | str y=>exact kE h λhr h=>gi (G:=λv H'=>r9 W d H _ _ _ v H') h (uK hr)
   | _=>exact dA h
  ·rw[EP h1]at ho
   erw [FH ho]
   cases y using AV.casesOn with
   | int y=>exact kE h λhr h=>gi (G:=λv H'=>r9 W d H _ _ _ v H') h (Cq (of_decide_eq_true (ae.mp hr).1) (ae.mp hr).2)
   | _=>exact dA h
 | ref k=>
  refine kE h λh1 h=>?_;rw[yd h1]at ho
  erw [FH ho]
  exact zQ h
 | _=>exact dA h
def wB(h:wY i n=some j):j<n/\n<=1000000/\((0<=i/\i=j)\/(i<0/\i+n=j)):=by
 unfold wY at h
 split at h
 ·cases h
 ·rename_i hr
  have hr:=fg hr
  split at h
  ·rename_i k
   split at h
   ·rename_i hk
    (replace h:=af h;subst h)
    have:=cM.mp hk;exact eD this hr (.inl ⟨by simp,rfl⟩)
   ·cases h
  ·rename_i k
   split at h
   ·rename_i hk
    (replace h:=af h;subst h)
    have:=cM.mp hk;exact eD (by exact(gn bh az [(aK ai mc,az)] aS (pK (dW this)))) hr (.inr ⟨by lia,Int.subNatNat_of_le this⟩)
   ·cases h
def yN(h:wY i n=some j):-2 ^ 63<=i/\i<2 ^ 63:=by
 obtain⟨h1,h2,⟨p,q⟩ | ⟨p,q⟩⟩:=wB h
 ·exact⟨by exact(eC [_] [_] 0 (.ik (-(2 ^ 63))) (.iv 0) (.hz (.ic ai) (.iv 0) .ho) aS (wV q)),by exact(eC [_] [_,_] 0 (.ip (.iv 0) (.ik 1)) (.ik (2 ^ 63)) (.hz (.iv 0) (.ic ai) (.hn bh az (.hn az cY .ho))) aS (wW q) h1 h2)⟩
 ·exact⟨by exact(eC [_] [_,_] 0 (.ik (-(2 ^ 63))) (.iv 0) (.hz (.ic ai) (.ip (.iv 0) (.ic az)) (.hn az cY .ho)) aS (wV q) h2),by exact(eC [_] [_,_] 0 (.ip (.iv 0) (.ik 1)) (.ik (2 ^ 63)) (.hz (.ip (.iv 0) (.ic ai)) (.ic az) (.hn cO ai .ho)) aS (wW q) h1)⟩
def rF(h:wY i n=some j):seqIndex? i n=some j:=by
 refine kI (wB h) λh1 h2 h3=>?_;rcases h3 with⟨p,q⟩ | ⟨p,q⟩
 ·erw [(PySem.seqIndex_of p (by exact(eC [_] [_,_] 0 (.ip (.iv 0) (.ik 1)) (.ic ai) (.hz (.iv 0) (.ic az) (.hn cO ai .ho)) aS (wW q) h1)))];congr 1;exact(bJ (bP.mp (eC [_] [_,_] 0 (.ic ai) (.ic az) (.hz (.ic ai) (.iv 0) (.hz (.iv 0) (.ic az) .ho)) aS (wW (bV (eC [_] [_] 0 (.ik 0) (.iv 0) (.hz (.ic ai) (.iv 0) .ho) aS (wV q)))) (wW q))) (bP.mp (eC [_] [_,_] 0 (.ic ai) (.ic az) (.hz (.ic ai) (.iv 0) (.hz (.iv 0) (.ic az) .ho)) aS (wV q) (wV (bV (eC [_] [_] 0 (.ik 0) (.iv 0) (.hz (.ic ai) (.iv 0) .ho) aS (wV q)))))))
 ·erw [(PySem.seqIndex_neg p (by exact(eC [_] [_,_] 0 (.ig (.ic ai)) (.iv 0) (.hz (.ic az) (.ip (.iv 0) (.ic ai)) .ho) aS (wV q))))];congr 1;exact(bJ (bP.mp (eC [_] [_,_,_] 0 (.ic ai) (.ic az) (.hz (.ic ai) (.ip (.iv 0) (.ic bH)) (.hz (.ip (.iv 0) (.ic bH)) (.ic az) .ho)) aS (wW (bV (eC [_] [_,_] 0 (.ik 0) (.ip (.iv 0) (.ic ai)) (.hz (.ic az) (.ip (.iv 0) (.ic ai)) .ho) aS (wV q)))) (wW q))) (bP.mp (eC [_] [_,_,_] 0 (.ic ai) (.ic az) (.hz (.ic ai) (.ip (.iv 0) (.ic bH)) (.hz (.ip (.iv 0) (.ic bH)) (.ic az) .ho)) aS (wV q) (wV (bV (eC [_] [_,_] 0 (.ik 0) (.ip (.iv 0) (.ic ai)) (.hz (.ic az) (.ip (.iv 0) (.ic ai)) .ho) aS (wV q)))))))
abbrev pN:Expr->Bool
 | .Slice .. =>true
 | _=>false
def pn(h:pN slice=false)(o i:Value):subscripted slice false o i=operate [o,i] (getItem o i):=by
 cases slice using bE with
 | Slice zz zy zx zw=>exact nomatch h
 | _=>rfl
end
section
mutual
variable{A:Around}{B:BgT}{ρ:List Addr}{F:Raws}{s:Shared}{value slice:Expr}{i:Int}{t:Tok}{vs:List AV}{v:AV}{its:List Value}{l:Addr}
def yf(hs':∀o i,subscripted slice false o i=operate [o,i] (getItem o i))(hR:RM W B ρ F H s.heap)(hl:s.heap.IsList l its.toArray)(hr:VRs W B ρ vs its)(h:rO vs i=some v):wpAny W.M A (subscriptTail value slice (.ref l) (.int i t)) (PV W B ρ F s v H) fh s:=by
 refine je h λj hj hv=>?_;refine aM (hr.get hv) λu hu r=>?_;have hlen:its.toArray.size=vs.length:=hr.length;have hu:its.toArray[j]? =some u:=by erw [dI];exact hu
 refine tail_any hl.typeIs slot_list_getitem.lookup ?_ (hs' _ _);obtain⟨h1,h2,⟨p,q⟩ | ⟨p,q⟩⟩:=wB hj
 ·exact wpAny_getItem_list hl p (by exact(eC [_] [_,_] 0 (.ip (.iv 0) (.ik 1)) (.ik (2 ^ 63)) (.hz (.iv 0) (.ic ai) (.hn bh az (.hn az cY .ho))) aS (wW q) h1 h2)) (by erw [q];exact hu) (d4 B ρ (.refl B ρ) hR (.refl s) r)
 ·exact wpAny_getItem_list_neg hl p (by erw [hlen];exact(eC [_] [_,_] 0 (.ig (.ic ai)) (.iv 0) (.hz (.ic az) (.ip (.iv 0) (.ic ai)) .ho) aS (wV q))) (by exact(eC [_] [_,_] 0 (.ik (-(2 ^ 63))) (.iv 0) (.hz (.ic ai) (.ip (.iv 0) (.ic az)) (.hn az cY .ho)) aS (wV q) h2)) (by erw [hlen,q];exact hu) (d4 B ρ (.refl B ρ) hR (.refl s) r)
def HO(hs':∀o i,subscripted slice false o i=operate [o,i] (getItem o i))(hR:RM W B ρ F H s.heap)(hl:IsTup s.heap l its.toArray)(hr:VRs W B ρ vs its)(h:rO vs i=some v):wpAny W.M A (subscriptTail value slice (.ref l) (.int i t)) (PV W B ρ F s v H) fh s:=by
 refine je h λj hj hv=>?_;refine aM (hr.get hv) λu hu r=>?_;have hlen:its.toArray.size=vs.length:=hr.length;have hu:its.toArray[j]? =some u:=by erw [dI];exact hu
 obtain⟨q3,q4⟩:=yN hj;exact tail_any hl.typeIs slot_tuple_getitem.lookup (PyProof.Rows.getItem_tuple hl q3 q4 (by erw [hlen];exact rF hj) hu (d4 B ρ (.refl B ρ) hR (.refl s) r)) (hs' _ _)
end
end
mutual
def K7{v:AV}(h:rN H x y=some v){value:Expr}(hs:pN slice=false):r9 W d H x y (subscriptTail value slice) v H:=λA B ρ F s a b hA hB hR ha hb=>mS h hb λi t h=>by
 have hs':=pn hs
 cases x using AV.casesOn with
 | str str=>
  obtain⟨t',e⟩:=my ha
  erw [e]
  refine je h λj hj h=>jZ h λc hc e=>?_
  erw [<- e]
  have q2:=yN hj;refine tail_any (show s.TypeIs _ "str" from rfl) PySem.F.slot_str_getitem.lookup (P.getItem_str (c:=c) ?_ ?_ (sT (x:= [c]) hR rfl ⟨rfl,rfl,rfl⟩)) (hs' _ _)
  ·simp only[eP,decide_eq_false_iff_not];exact⟨jg.mpr q2.1,wQ.mpr q2.2⟩
  ·erw [cz,rF hj]
   show(aO str).cps[j]? =some c
   erw [(show(aO str).cps=str.toArray from rfl),dI]
   exact hc
 | U zz=>refine gT (Dx ha) λa o its e h1 h2 h3=>?_;erw [e];exact HO hs' hR (yb hR h1 h2) h3 h
 | a zz=>refine gT (se ha) λa o its e h1 h2 h3=>?_;erw [e];exact yf hs' hR (nM hR h1 h2) h3 h
 | ref k=>
  refine aM (mV ha) λa e ha=>?_
  erw [e]
  refine je h λvs h1 h=>?_;refine aM (eB hR h1 ha) λits p q=>?_;exact yf hs' hR p q h
 | _=>exact dA h
def MC{a b:Expr}{pos:Pos}{v:AV}(h:TE W d cx ls H a x au)(h':TE W d cx ls au b y aP)(hs:pN b=false)(hv:rN aP x y=some v):TE W d cx ls H (.Subscript a b pos) v aP:=by
 intro A B ρ F env s hA hB hE hF hR;refine Subscript_ (h.go hA hB hE hF hR λb9 bu a bA cj di cR bY cf dZ=>h'.go hA di hE cR bY λfZ d8 b dR eE iJ jc eJ fH gU=>?_);exact lA (K7 hv hs A fZ d8 F dR a b hA iJ eJ (dZ.mono eE) gU) λu s' z=>(z.glue eE fH).glue cj cf
inductive TO(W:Wd)(d:Nat)(cx:CX)(ls:Ls)(H:Hp):Option Expr->Option AV->Hp->Prop
 | none:TO W d cx ls H none none H
 | some {e:Expr} {v:AV} {H':Hp}:TE W d cx ls H e v H'->TO W d cx ls H (some e) (some v) H'
inductive VRo(W:Wd)(B:BgT)(ρ:List Addr):Option AV->Value->Prop
 | none:VRo W B ρ none .none
 | some {v:AV} {u:Value}:VR W B ρ v u->VRo W B ρ (some v) u
def VRo.mono{B B':BgT}{ρ ρ':List Addr}(g:Grow B ρ B' ρ'){v:Option AV}{u:Value}(h:VRo W B ρ v u):VRo W B' ρ' v u:=by
 cases h using VRo.casesOn with
 | none=>exact .none
 | some r=>exact .some (r.mono g)
def TO.go{e:Option Expr}{v:Option AV}(h:TO W d cx ls H e v H'){B:BgT}{ρ:List Addr}{env:Env}(hA:AOk A d)(hB:gw W B)(hE:EnvOk cx env)(hF:pf W B ρ F env cx ls)(hR:RM W B ρ F H s.heap)
  (k:∀B' ρ' u s',Grow B ρ B' ρ'->gw W B'->pf W B' ρ' F env cx ls->RM W B' ρ' F H' s'.heap->Rest s s'->VRo W B' ρ' v u->Q u s'):wpAny W.M A (evalPart e env) Q fh s:=by
 cases h using TO.casesOn with
 | none=>exact bK (k B ρ _ s (.refl B ρ) hB hF hR (.refl s) .none)
 | some h=>exact h.go hA hB hE hF hR λB' ρ' u s' g b f R r v=>k B' ρ' u s' g b f R r (.some v)
def Qs(a len:Nat):max (0:Int) (min (a:Int) (len:Int))=((min a len:Nat):Int):=by
 erw [(show min (a:Int) (len:Int)=((min a len:Nat):Int)from by omega)]
 exact Int.max_eq_right (fE _)
def sC(a b len:Nat):dN (some (a:Int)) (some (b:Int)) 1 len=dN (some ((min a len:Nat):Int)) (some ((max (min a len) (min b len):Nat):Int)) 1 len:=by
 have hn:∀n:Nat,¬ ((n:Int)<0):=λn=>jg.mpr (fE n);have h1:((1:Int) > 0)=True:=eq_true (Int.zero_lt_one);have e3:min (min a len) len=min a len:=iK (cF _ _);have e4:min (max (min a len) (min b len)) len=max (min a len) (min b len):=iK (wM.mpr ⟨cF _ _,cF _ _⟩);simp only[dN,hn,if_false,Qs,e3,e4,h1,if_true];by_cases hlt:min a len<=min b len
 ·erw [ql hlt];rfl
 ·have hlt:=jj hlt
  erw [Dc hlt]
  simp only[PySem.sliceRange,h1,if_true]
  erw [if_neg (jg.mpr (bP.mpr hlt)),if_neg (o7 _)];rfl
def sJ{α:Type}(l:List α)(a b:Nat):(l.drop (min a l.length)).take (max (min a l.length) (min b l.length)-min a l.length)=(l.take b).drop a:=by
 by_cases h:a<=l.length
 ·erw [iK h,List.drop_take]
  by_cases hb:b<=l.length
  ·erw [iK hb]
   by_cases hab:a<=b
   ·erw [ql hab];rfl
   ·erw [Dc (jj hab),mT,rP (jj hab)];rfl
  ·erw [AM (jj hb),ql h,(List.take_of_length_le (by erw [d7];exact ay _)),(List.take_of_length_le (by erw [d7];exact t7 (jj hb) a))];rfl
 ·have h:=jj h
  erw [AM h,List.drop_length,List.take_nil,(ll (by erw [lY];exact aj (cF _ _) h))];rfl
def AA{v:Option AV}(h:mK n v=some k):(v=none/\k=n)\/v=some (.int (k:Int)):=by
 cases v using bf with
 | none=>exact .inl ⟨rfl,(af h).symm⟩
 | some v=>cases v using AV.casesOn with
  | int i=>cases i using iu with
   | ofNat i=>exact .inr (by erw [<- af h];rfl)
   | negSucc zz=>exact dA h
  | _=>exact dA h
def Co(x:List Nat)(lo hi:Option (Int×Tok))(a b:Nat)(h1:(lo=none/\a=0)\/∃t,lo=some ((a:Int),t))(h2:(hi=none/\b=x.length)\/∃t,hi=some ((b:Int),t)):slicePicked (aO x) lo hi none=dN (some ((min a x.length:Nat):Int)) (some ((max (min a x.length) (min b x.length):Nat):Int)) 1 (aO x).length:=by
 unfold slicePicked
 erw [cz,<- sC]
 rcases h1 with⟨e,e'⟩ | ⟨t1,e⟩ <;> rcases h2 with⟨e2,e2'⟩ | ⟨t2,e2⟩ <;> rw[e,e2]
 ·erw [e',e2']
  show dN none none 1 _=_
  erw [StrLaws.sliceIdx_none_lo,StrLaws.sliceIdx_none_hi];rfl
 ·erw [e']
  show dN none _ 1 _=_;rw[StrLaws.sliceIdx_none_lo];rfl
 ·erw [e2']
  show dN _ none 1 _=_
  erw [StrLaws.sliceIdx_none_hi];rfl
 ·rfl
def zL(x:List Nat)(t:Tok)(lo hi:Option (Int×Tok))(a b:Nat)(h1:(lo=none/\a=0)\/∃t,lo=some ((a:Int),t))(h2:(hi=none/\b=x.length)\/∃t,hi=some ((b:Int),t))(hr:cG x.length=true)
  (h:∀t' tk,Q (.str (aO ((x.take b).drop a)) t') {s with toks:=tk}):(sliceMade (aO x) t lo hi none).post Q s:=by
 have e:=Co x lo hi a b h1 h2;have m1:min a x.length<=max (min a x.length) (min b x.length):=iL _ _;have m2:max (min a x.length) (min b x.length)<=(aO x).length:=by erw [cz];exact wM.mpr ⟨cF _ _,cF _ _⟩
 have e2:=StrLaws.sliced_plain (aO x) (a:=min a x.length) (b:=max (min a x.length) (min b x.length)) m1 m2;rw[<- e]at e2;have e3:((aO x).cps.toList.drop (min a x.length)).take (max (min a x.length) (min b x.length)-min a x.length)=(x.take b).drop a:=sJ x a b;unfold sliceMade
 split
 ·rename_i hc
  have hl:(slicePicked (aO x) lo hi none).length=x.length:=by simpa [cz]using hc
  rw[e,StrLaws.strSliceIndices_plain m1 m2,aL,oz]at hl;have:(x.take b).drop a=x:=by
   erw [<- e3,hl]
   show(x.drop (min a x.length)).take x.length=x
   have:min a x.length=0\/x.length=0:=by rw[cz]at m2;exact(.inl (bJ (bP.mp (eC [] [_,_,_,_] 0 (.ic ai) (.ic (aI 0)) (.hn (aK az ai) bH (.hn bH cQ (.hn cQ az .ho))) aS (pK (dW (bP.mp (eC [] [_,_] 0 (.ic ai) (.ic az) (.hn ai az .ho) aS (iL _ _))))) m2 (lz hl))) (bP.mp (eC [] [_] 0 (.ic (aI 0)) (.ic ai) .ho aS))))
   rcases this with q | q
   ·erw [q,nG,qn];rfl
   ·erw [List.length_eq_zero_iff.mp q,List.drop_nil,List.take_nil];rfl
  exact this ▸h t s.toks
 ·simp only[Made.post]
  erw [e2,e3]
  refine⟨?_,h _ _⟩;show(aO ((x.take b).drop a)).length<=_
  erw [cz,d7,lY]
  exact aj (wK _ _) (aj (cF _ _) (aj (fg hr) (aj (ab rfl) d0)))
set_option tactic.hygienic true in
theorem nI{B:BgT}{ρ:List Addr}{v:Option AV}{u:Value}(h:mK n v=some k)(r:VRo W B ρ v u):∃p:Option (Int×Tok),u=kP p/\((p=none/\k=n)\/∃t,p=some ((k:Int),t)):=by
 rcases AA h with⟨rfl,rfl⟩ | rfl
 ·cases r;exact bI none rfl (.inl ⟨rfl,rfl⟩)
 ·cases r with
  | some r=>cases r;rename_i t;exact bI (some (_,t)) rfl (.inr ⟨t,rfl⟩)
end
section
mutual
variable{n:Nat}
variable{A:Around}{B B':BgT}{ρ ρ':List Addr}{F:Raws}{rJ s:Shared}{l hh:Option AV}{ul uh:Value}{v:AV}{p:Pos}{value:Expr}{lo hi:Option Expr}
def IG{i:Nat}{pl:Option (Int×Tok)}(e1:(pl=none/\i=0)\/∃t,pl=some ((i:Int),t)):(pl.map (·.1)).elim 0 (clipAt n)=min i n:=by
 rcases e1 with⟨e,e'⟩ | ⟨t,e⟩ <;> rw[e]
 ·erw [e',Nat.zero_min];rfl
 ·exact clipAt_nat ..
def II{j:Nat}{ph:Option (Int×Tok)}(e1:(ph=none/\j=n)\/∃t,ph=some ((j:Int),t)):(ph.map (·.1)).elim n (clipAt n)=min j n:=by
 rcases e1 with⟨e,e'⟩ | ⟨t,e⟩ <;> rw[e]
 ·erw [e',Nat.min_self];rfl
 ·exact clipAt_nat ..
def Hy(a b:Nat):max a b-a=b-a:=by
 rcases Nat.le_total a b with h | h
 ·erw [ql h];rfl
 ·erw [Dc h,mT,rP h];rfl
def Cd{x:List Nat}{t:Tok}(g:Grow B ρ B' ρ')(R:RM W B' ρ' F H s.heap)(r:Rest rJ s)(hl:VRo W B' ρ' l ul)(hu:VRo W B' ρ' hh uh)(h:iw (.str x) l hh H=some (v,H')):
  wpAny W.M A (subscriptTail value (.Slice lo hi none p) (.str (aO x) t) (.ref s.heap.objs.size)) (PV W B ρ F rJ v H') fh {s with heap:=s.heap.push {cls:= .type "slice",data:= .fields #[ul,uh, .none]}}:=by
 refine kE h λhr h=>je h λi h1 h=>jZ h λj h2 e=>?_
 erw [<- (aD e).1,<- (aD e).2]
 refine aM (nI h1 hl) λpl e e1=>?_;refine aM (nI h2 hu) λph e' e2=>?_
 erw [e,e']
 obtain⟨pT,nD⟩:=R.pushD {cls:= .type "slice",data:= .fields #[kP pl,kP ph, .none]} rfl;exact tail_any (show Shared.TypeIs _ _ "str" from rfl) PySem.F.slot_str_getitem.lookup (PySem.wpAny_getItem_str_slice (l:=pl) (u:=ph) (st:=none) (eH _ (dE _ rfl) rfl rfl) rfl (zL _ _ _ _ _ _ e1 e2 hr λt' tk=>(d4 _ _ (g.trans pT) nD (⟨r.1,r.2,r.3⟩) .str))) rfl
def xl{vs:List AV}{u:Value}(g:Grow B ρ B' ρ')(R:RM W B' ρ' F H s.heap)(r:Rest rJ s)(hv:VR W B' ρ' (.a vs) u)(hl:VRo W B' ρ' l ul)(hu:VRo W B' ρ' hh uh)(h:iw (.a vs) l hh H=some (v,H')):
  wpAny W.M A (subscriptTail value (.Slice lo hi none p) u (.ref s.heap.objs.size)) (PV W B ρ F rJ v H') fh {s with heap:=s.heap.push {cls:= .type "slice",data:= .fields #[ul,uh, .none]}}:=by
 refine kE h λhr h=>je h λi h1 h=>jZ h λj h2 e=>?_
 erw [<- (aD e).1,<- (aD e).2]
 refine aM (nI h1 hl) λpl e e1=>?_;refine aM (nI h2 hu) λph e' e2=>?_;refine gT (se hv) λb o its e3 f1 f2 f3=>?_
 erw [e,e',e3]
 obtain⟨pT,nD⟩:=R.pushD {cls:= .type "slice",data:= .fields #[kP pl,kP ph, .none]} rfl;have hls:=nM (s:={s with heap:=s.heap.push {cls:= .type "slice",data:= .fields #[kP pl,kP ph, .none]}}) nD (pT.b _ _ f1) f2;have hlen:its.toArray.size=vs.length:=f3.length;refine tail_any (s:={s with heap:=s.heap.push {cls:= .type "slice",data:= .fields #[kP pl,kP ph, .none]}}) hls.typeIs slot_list_getitem.lookup (wpAny_getItem_list_slice (lo:=pl.map (·.1)) (hi:=ph.map (·.1)) (st:=none) hls (Heap.IsSliceOf.new ..) ?_ ?_ .none (by simp) ?_ ?_) rfl
 ·rcases e1 with⟨e,_⟩ | ⟨t,e⟩ <;> rw[e]
  ·exact .none
  ·exact .int _ _
 ·rcases e2 with⟨e,_⟩ | ⟨t,e⟩ <;> rw[e]
  ·exact .none
  ·exact .int _ _
 ·have e:slicePick its.toArray (pl.map (·.1)) (ph.map (·.1)) none=((its.take j).drop i).toArray:=by
   erw [slicePick_plain,<- sJ its i j,IG e1,II (n:=its.toArray.size) (hlen ▸e2)]
   congr 1
   show(its.drop (min i its.length)).take _=_
   congr 1
   exact(Hy _ _).symm
  erw [e]
  exact d4 _ _ ((g.trans pT).trans (.push _ _ _)) (nD.newList (((f3.mono pT).take j).drop i)) (⟨r.1,r.2,r.3⟩) (.ref (by erw [<- nD.len];simp))
 ·erw [hlen];exact aj (fg hr) (aj (ab rfl) d0)
end
end
mutual
def F6{a:Expr}{lo hi:Option Expr}{p pos:Pos}{v:AV}{l h:Option AV}(ha:TE W d cx ls H a x au)(hl:TO W d cx ls au lo l aP)(hh:TO W d cx ls aP hi h dM)(hv:iw x l h dM=some (v,H')):TE W d cx ls H (.Subscript a (.Slice lo hi none p) pos) v H':=by
 intro A B ρ F env s hA hB hE hF hR;refine Subscript_ (ha.go hA hB hE hF hR λb9 bu a bA cj di cR bY cf dZ=>wpAny_Slice (hl.go hA di hE cR bY λfZ d8 ul dR eE iJ jc eJ fH gU=>hh.go hA iJ hE jc eJ λnZ j4 uh oB iy Uw CJ jH lC qt=>bK ?_))
 try dsimp only
 have Ni:=(dZ.mono eE).mono iy
 cases x using AV.casesOn with
 | str x=>obtain⟨t,e⟩:=my Ni;erw [e];exact Cd ((cj.trans eE).trans iy) jH ((cf.trans fH).trans lC) (gU.mono iy) qt hv
 | a vs=>exact xl ((cj.trans eE).trans iy) jH ((cf.trans fH).trans lC) Ni (gU.mono iy) qt hv
 | _=>exact dA hv
end
end
section
mutual
variable{B:BgT}{ρ:List Addr}{n:Nat}{v:AV}{vs:List AV}
variable{W:Wd}{d:Nat}{H H' au aP dM:Hp}{cx:CX}{ls:Ls}
def yK{M:Model}{h:Heap}(b:BI):lQ M h (vg b):=by induction b using BI.casesOn <;> first | exact fU _ | exact oR _
def Ab(i:Int):aa (toString i)=aO (dH i):=by
 cases i using iu with
 | ofNat n=>exact text_ofNat n
 | negSucc n=>
  have e:toString (B1 n)="-" ++Nat.repr (n+1):=rfl;have h2:aa (Nat.repr (n+1))=aO (bR (n+1)):=text_ofNat (n+1)
  erw [e,Str.ofString_eq_toList,String.toList_append]
  rw[Str.ofString_eq_toList]at h2;have h3:(Nat.repr (n+1)).toList.map Char.toNat=bR (n+1):=by simpa using congrArg (λw:Str=>w.cps.toList) h2
  erw [bc,h3]
  rfl
def jv(a b c:Int):0<=eO a b c:=by
 unfold eO
 split <;> split
 ·have:=Int.ediv_nonneg (a:=b-a-1) (b:=c) (by lia) (by lia);exact(eC [_] [] 0 (.ik 0) (.ip (.iv 0) (.ik 1)) (.hz (.ik 0) (.iv 0) .ho) aS this)
 ·exact(eC [] [] 0 (.ik 0) (.ik 0) .ho aS)
 ·have:=Int.ediv_nonneg (a:=a-b-1) (b:= -c) (by lia) (by lia);exact(eC [_] [] 0 (.ik 0) (.ip (.iv 0) (.ik 1)) (.hz (.ik 0) (.iv 0) .ho) aS this)
 ·exact(eC [] [] 0 (.ik 0) (.ik 0) .ho aS)
def E6{i:Int}(h:fR i=true):i.natAbs.log2<1920:=by
 have:=kF h;unfold gW at this;by_cases q:i=0
 ·subst q;simp
 ·simp only[beq_iff_eq,q,if_false]at this;exact aj this (ab rfl)
def pE{F:Raws}{s:Shared}{u:Value}{s':Shared}(hR:RM W B ρ F H s.heap)(k:∀b o,s.heap.get? b=some o->s'.heap.get? b=some o)(r:Rest s s')(z:VR W B ρ v u):PV W B ρ F s v H u s':=(d4 B ρ (.refl B ρ) (hR.ext k) r z)
def tS:∀(vs:List AV) (bs:List Bool) (us:List Value),lM vs=some bs->VRs W B ρ vs us->us=bs.map .bool
 | [],bs,us,h,r=>by erw [vt r,<- af h];rfl
 | v::vs,bs,us,h,r=>by
  refine dY (jm r) λu us' e r rs=>?_
  cases v using AV.casesOn with
  | bool b=>
   refine jZ (show(lM vs).map (b::·)=some bs from h) λcs hc e2=>?_
   erw [e,n5 r,<- e2,tS vs cs us' hc rs];rfl
  | _=>exact dA h
def Kn:∀{us:List Value},us.length=vs.length->(∀(j:Nat) (x:AV) (v:Value),vs[j]? =some x->us[j]? =some v->VR W B ρ x v)->VRs W B ρ vs us:=by
 induction vs with
 | nil=>intro us hl zz;erw [B0 hl];exact .nil
 | cons v vs ih=>
  intro us hl h
  cases us using aw with
  | nil=>exact nomatch hl
  | cons u us=>exact .cons (h 0 v u rfl rfl) (ih (q6 hl) λj x y a b=>h (j+1) x y a b)
noncomputable abbrev q8(W:Wd)(d:Nat)(H H':Hp)(b:BI):Prop:= ∀(vs:List AV) (v:AV),BS b vs H=some (v,H')->Gf W d H vs (λus=>call (vg b) us) v H'
def zT(h:cG n=true):n<=lB:=aj (fg h) (aj (ab rfl) d0)
def Ez(h:cG n=true):(n:Int)<2 ^ 63:=by
 have:=fg h;exact(eC [] [_] 0 (.ip (.ic ai) (.ik 1)) (.ik (2 ^ 63)) (.hn ai cY .ho) aS this)
def Mo:q8 W d H H' .abs:=λvs v h A B ρ F s us hA hB hR hv=>v1 h hv λx u r h=>mS h r λi t h=>gi h (call_abs_int λu tk=>(show(i.natAbs:Int)=if i<0 then -i else i by split <;> (first | lia | omega)) ▸hU hR rfl ⟨rfl,rfl,rfl⟩)
def Mm:q8 W d H H' .chr:=λvs v h A B ρ F s us hA hB hR hv=>v1 h hv λx u r h=>mS h r λi t h=>Lk h λn h=>kE h λhb h=>gi h (P.chr_of_int (by
  have:=cM.mp hb;simp only[eP,decide_eq_false_iff_not];exact⟨(λzz=>(Dk [] [_] (.hz (.ip (.ic ai) (.ik 1)) (.ik 0) .ho) aS zz)),(λzz=>(Dk [] [_] (.hz (.ip (.ik 1114111) (.ik 1)) (.ic ai) (.hn bh (aI 1114112) .ho)) aS zz this))⟩) (sT (x:= [_]) hR rfl ⟨rfl,rfl,rfl⟩))
def Mh:q8 W d H H' .ord:=λvs v h A B ρ F s us hA hB hR hv=>v1 h hv λx u r h=>sx h r λw t h=>zR h λc h=>gi h (P.ord_of_char (hU hR rfl ⟨rfl,rfl,rfl⟩))
def Mk:q8 W d H H' .len:=λvs v h A B ρ F s us hA hB hR hv=>v1 h hv λx u r h=>je h λn hn h=>kE h λhr h=>gi h (by
  cases x using AV.casesOn with
  | str w=>
   obtain⟨t,e⟩:=my r;rw[<- show w.length=n from af hn]at hr |-
   erw [e]
   exact P.len_str (by erw [cz];exact wQ.mpr (Ez hr)) (cz w ▸hU hR rfl ⟨rfl,rfl,rfl⟩)
  | U ws=>
   refine gT (Dx r) λa o its e e1 e2 e3=>?_;have e4:its.toArray.size=n:=e3.length.trans (af hn)
   erw [e]
   exact PyProof.Rows.len_tuple (yb hR e1 e2) (e4 ▸Ez hr) (e4 ▸hU hR rfl ⟨rfl,rfl,rfl⟩)
  | a ws=>
   refine gT (se r) λa o its e e1 e2 e3=>?_;have e4:its.toArray.size=n:=e3.length.trans (af hn)
   erw [e]
   exact call_len_list (nM hR e1 e2) (e4 ▸Ez hr) (e4 ▸hU hR rfl ⟨rfl,rfl,rfl⟩)
  | ref k=>
   refine aM (mV r) λa e ha=>?_;refine jZ hn λws h1 h2=>?_;refine aM (eB hR h1 ha) λits p q=>?_;have e4:its.toArray.size=n:=q.length.trans h2
   erw [e]
   exact call_len_list p (e4 ▸Ez hr) (e4 ▸hU hR rfl ⟨rfl,rfl,rfl⟩)
  | _=>exact dA hn)
def C7:q8 W d H H' .divmod:=λvs v h A B ρ F s us hA hB hR hv=>v2 h hv λx y u w r r' h=>mS h r λa t h=>mS h r' λb t' h=>kE h λhb h=>gi h (divmod_int (PO (ae.mp hb).2) (by
  obtain⟨g,R⟩:=hR.pushD {cls:= .type "tuple",data:= .seq #[.int (lq a b) s.toks, .int (gu a b) (s.toks+1)]} rfl;exact d4 _ _ g R (⟨rfl,rfl,rfl⟩) (.U kM ⟨rfl,0,rfl⟩ (.cons .int (.cons .int .nil)))) (.inl (tI (ae.mp hb).1)))
def Ml:q8 W d H H' .int:=λvs v h A B ρ F s us hA hB hR hv=>v1 h hv λx u r h=>Py h r λb h=>gi h (call_int_bool (hU (i:=yL b) hR rfl ⟨rfl,rfl,rfl⟩))
def Cn{a c:Int}{acc:Array Value}(h1:acc.size=n)(h2:∀(j:Nat) (v:Value),acc[j]? =some v->∃t,v=Value.int (a+(j:Int)*c) t):VRs W B ρ ((cS n).map λi:Nat=>AV.int (a+(i:Int)*c)) acc.toList:=by
 refine Kn (by simp[h1]) λj x v q1 q2=>?_;obtain⟨t,e⟩:=h2 j v (by simpa using q2);rw[ey]at q1;refine jZ q1 λk hk e2=>?_;have hj:j=k:=by
  obtain⟨p,q⟩:=aU.mp hk
  simpa using q
 erw [e,<- e2,hj]
 exact .int
def IM:q8 W d H H' .list:=λvs v h A B ρ F s us hA hB hR hv=>v1 h hv λx u r h=>Ql h r λa b c l o e1 e2 h=>kE h λhc h=>gi h (by
  obtain⟨h1,h2⟩:=ae.mp hc;refine ub e2 λt t' t'' e=>?_;rw[e]at e1;have hn:eO a b c=((hO a b c:Nat):Int):=(bV (jv a b c)).symm;have hr:=fg h1;refine call_list_range hA.handled (hR.keep _ _ e1) h2 hn (by exact aj hr (ab rfl)) λh' tk acc' c' hk hS hacc=>?_;have hg:=hR.newCell (h':=h') (a:=s.heap.objs.size) (.list (n:=c') (Cn hacc.1 hacc.2)) λrs S=>S.allocM (bQ (ay _)) hk (by erw [hS];rfl);exact d4 _ _ hg.1 hg.2 (⟨rfl,rfl,rfl⟩) (.ref (by erw [<- hR.len];simp)))
def Mj:q8 W d H H' .max:=λvs v h A B ρ F s us hA hB hR hv=>v2 h hv λx y u w r r' h=>mS h r λa t h=>mS h r' λb t' h=>gi h (max_two_ints hA.handled λh' tk hk=>by
  split
  ·exact pE hR hk ⟨rfl,rfl,rfl⟩ .int
  ·exact pE hR hk ⟨rfl,rfl,rfl⟩ .int)
def Mi:q8 W d H H' .min:=λvs v h A B ρ F s us hA hB hR hv=>v2 h hv λx y u w r r' h=>mS h r λa t h=>mS h r' λb t' h=>gi h (min_two_ints hA.handled λh' tk hk=>by
  split
  ·exact pE hR hk ⟨rfl,rfl,rfl⟩ .int
  ·exact pE hR hk ⟨rfl,rfl,rfl⟩ .int)
def Mg:q8 W d H H' .str:=λvs v h A B ρ F s us hA hB hR hv=>v1 h hv λx u r h=>mS h r λi t h=>kE h λhb h=>gi h (P.str_of_int (E6 hb) (Ab i ▸sT hR rfl ⟨rfl,rfl,rfl⟩))
def FK:q8 W d H H' .tuple:=λvs v h A B ρ F s us hA hB hR hv=>v1 h hv λx u r h=>zG h r λk a ha h=>je h λws h1 h=>kE h λhb h=>gi h (by
  refine aM (eB hR h1 ha) λits p q=>?_;have e4:its.toArray.size=ws.length:=q.length;refine call_tuple_list p (λh' hk=>?_) (e4 ▸zT hb);obtain⟨g,R⟩:=(hR.ext hk).pushD {cls:= .type "tuple",data:= .seq its.toArray} rfl;exact d4 _ _ g R (⟨rfl,rfl,rfl⟩) (.U kM ⟨rfl,0,rfl⟩ (q.mono g)))
def FX(bs:List Bool):(cS (bs.map Value.bool).toArray.size).all (λi=>bs.getD i true)=bs.all id:=by
 rw[Bool.eq_iff_iff,aT,aT];constructor
 ·intro h x hx;obtain⟨i,hi,xq1⟩:=List.getElem_of_mem hx;subst xq1;have:=h i (by simpa using hi);simpa [fc,hi]using this
 ·intro h i hi;have hi':i<bs.length:=by simpa using hi
  have:=h bs[i] (List.getElem_mem _);simpa [fc,hi']using this
def Mn:q8 W d H H' .all:=λvs v h A B ρ F s us hA hB hR hv=>v1 h hv λx u r h=>zG h r λk ax ha h=>je h λxs hx h=>jZ h λbs hbs e=>by
  refine aM (eB hR hx ha) λits p q=>?_;rw[tS _ _ _ hbs q]at p
  erw [<- (aD e).1,<- (aD e).2]
  refine call_all_walkS (wpAny_pyIter_list p ?_);have fr:s.heap.get? s.heap.objs.size=none:=bQ (ay _);have hne:ax≠s.heap.objs.size:=λe=>by
   refine aM p λo ho zz=>?_
   rw[e,fr]at ho;exact dA ho
  have k0:∀b o,s.heap.get? b=some o->(s.heap.push {cls:= .type "list_iterator",data:= .fields #[.ref ax, .int 0 0]}).get? b=some o:=λb o e=>cH _ e;refine QF _ _ _ _ _ _ _ (λi=>bs.getD i true) rfl ((Walks.list (A:=A.in1) hA.handled s.heap.objs.size ax hne (bs.map Value.bool).toArray).toS) (⟨⟨_,dE _ rfl,rfl,rfl⟩,aM p λo ho z=>⟨o,k0 _ _ ho,z⟩⟩) (λi v s' Q' E' hv hQ=>?_) (λs' M=>?_)
  ·try dsimp only at hv
   rw[dI,ey]at hv;refine jZ hv λb hb e=>?_
   erw [<- e]
   refine wpAny_truthy_bool ?_
   try dsimp only at hQ
   rw[fc,hb]at hQ;exact hQ
  ·erw [FX]
   exact pE hR (λb o e=>M.heap b o (λq=>by rw[fD.mp q,fr]at e;exact dA e) (k0 _ _ e)) ⟨M.gens,M.drawn,M.os⟩ .bool
def FL:q8 W d H H' .range:=λvs v h A B ρ F s us hA hB hR hv=>by
 cases vs using aw with
 | nil=>exact dA h
 | cons x vs=>
  refine dY (jm hv) λu us' e r hv=>?_
  erw [e]
  refine mS (show fL x _=some (v,H')from h) r λa t h=>?_
  cases vs using aw with
  | nil=>
   erw [vt hv]
   refine gi h (call_range_1 ?_);obtain⟨g,R⟩:=hR.pushD {cls:= .type "range",data:= .fields #[.int 0 s.toks, .int a t, .int 1 (s.toks+1)]} rfl;exact d4 _ _ g R (⟨rfl,rfl,rfl⟩) (.rng kM (HR _ _ _ rfl))
  | cons y vs=>
   refine dY (jm hv) λu' us'' e r' hv=>?_
   erw [e]
   refine mS (show fL y _=some (v,H')from h) r' λb t' h=>?_
   cases vs using aw with
   | nil=>
    erw [vt hv]
    refine gi h (call_range_2 ?_);obtain⟨g,R⟩:=hR.pushD {cls:= .type "range",data:= .fields #[.int a t, .int b t', .int 1 s.toks]} rfl;exact d4 _ _ g R (⟨rfl,rfl,rfl⟩) (.rng kM (HR _ _ _ rfl))
   | cons z vs=>
    refine dY (jm hv) λu'' us'' e r'' hv=>?_
    erw [e]
    refine v0 (G:=λvs=>wpAny W.M A (call (vg .range) (.int a t:: .int b t'::u''::vs)) (PV W B ρ F s v H') fh s) h hv λh=>mS h r'' λc t'' h=>kE h λhb h=>gi h (call_range_3 (PO (ae.mp hb).2) ?_ (.inl (tI (ae.mp hb).1)));obtain⟨g,R⟩:=hR.pushD {cls:= .type "range",data:= .fields #[.int a t, .int b t', .int c t'']} rfl;exact d4 _ _ g R (⟨rfl,rfl,rfl⟩) (.rng kM (HR _ _ _ rfl))
def NS{b:BI}(h:BS b vs H=some (v,H')):Gf W d H vs (λus=>call (vg b) us) v H':=by
 cases b using BI.casesOn with
 | abs=>exact Mo _ _ h
 | chr=>exact Mm _ _ h
 | ord=>exact Mh _ _ h
 | len=>exact Mk _ _ h
 | divmod=>exact C7 _ _ h
 | int=>exact Ml _ _ h
 | list=>exact IM _ _ h
 | max=>exact Mj _ _ h
 | min=>exact Mi _ _ h
 | str=>exact Mg _ _ h
 | tuple=>exact FK _ _ h
 | all=>exact Mn _ _ h
 | range=>exact FL _ _ h
end
end
end Mine.Internal
end
section
open PySem PySem.Calls PyProof.Rows PySem.W
open Builtin Builtin.Str
namespace Mine.Internal
mutual
variable{c:Nat}
def sW:∀{l:List Nat},(∀i:Nat,l[i]?≠some c)->gh c l=none
 | [],_=>rfl
 | x::r,h=>by
  unfold gh;have h0:x≠c:=λe=>h 0 (by simp[e]);have:aX x c=false:=by cases q:aX x c;rfl;exact absurd (aW q) h0
  erw [this]
  try dsimp only
  erw [(sW (l:=r) λi=>by simpa using h (i+1))];rfl
def sV:∀{l:List Nat} {i:Nat},l[i]? =some c->(∀k,k<i->l[k]?≠some c)->gh c l=some i
 | [],i,h,_=>by simp at h
 | x::r,0,h,_=>by
  simp at h;subst h;unfold gh
  erw [fW];rfl
 | x::r,i+1,h,g=>by
  unfold gh;have h0:x≠c:=λe=>g 0 (by exact(cA (eT (aI 0)) bh [] aS)) (by simp[e]);have:aX x c=false:=by cases q:aX x c;rfl;exact absurd (aW q) h0
  erw [this]
  try dsimp only
  erw [(sV (l:=r) (i:=i) (by simpa using h) λk hk=>by simpa using g (k+1) (by exact(bF (eT bh) cO [(bh,az)] aS hk)))];rfl
def wC(s:List Nat)(c i:Nat):StrLaws.At (aO s) (aO [c]) (aO s).length i ↔ s[i]? =some c:=StrLaws.subAt_one (aO s) c i
def vU(s:List Nat)(c lo:Nat):match gh c (s.drop lo)with
  | some j=> ∃r,occurrences (aO s) (aO [c]) lo (aO s).length 1=(lo+j)::r
  | none=>occurrences (aO s) (aO [c]) lo (aO s).length 1= []:=by
 rcases StrLaws.occ_head_from (aO s) (aO [c]) lo 1 (ay 1)with⟨h0,hn⟩ | ⟨k,r,h0,hlo,hk,hn⟩
 ·erw [(sW (l:=s.drop lo) λi q=>hn (lo+i) (by exact(bF ai (aK ai az) [] aS)) ((wC s c _).mpr (by simpa using q)))]
  exact h0
 ·have hm:=(wC s c k).mp hk;obtain⟨j,rfl⟩:∃j,k=lo+j:=⟨k-lo,by exact(bJ (gn ai (aK az bH) [(ai,aK bH az)] aS (th _ _)) (gn (aK ai az) bH [(aK az ai,bH)] aS (pK (dW hlo))))⟩
  erw [(sV (l:=s.drop lo) (i:=j) (by simpa using hm) λq hq e=>hn (lo+q) (by exact(bF ai (aK ai az) [] aS)) (by exact(gn (eT (aK ai az)) (aK ai bH) [(cO,bH)] aS hq)) ((wC s c _).mpr (by simpa using e)))]
  exact⟨r,h0⟩
def zF(s:List Nat)(c:Nat):Txt.rstripChars (aO s) (aO [c])=aO (nR c s):=by
 refine(PyProof.Rows.stripBy_eq _ _ _ _).trans (Str.ext' (q9 ?_))
 erw [StrLaws.strSub_toList]
 unfold stripHi stripLo nR;have hg:((aO [c]).cps.contains:Nat->Bool)=aX c:=by
  funext x
  show(#[c]:Array Nat).contains x=aX c x
  have e:(#[c]:Array Nat).contains x=(x==c):=by simp;rfl
  erw [e]
  cases q:aX c x with
  | true=>erw [aW q];simp
  | false=>rw[beq_eq_false_iff_ne];intro e;rw[e,fW]at q;cases q
 erw [hg]
 simp only[if_true,fF,if_false,nG,Nat.sub_zero];generalize hf:aX c=f;have e:(aO s).length=s.length:=cz s;have key:∀l:List Nat,l.reverse.take (l.length-(l.takeWhile f).length)=(l.dropWhile f).reverse:=by
  intro l
  have h1:l.takeWhile f++l.dropWhile f=l:=List.takeWhile_append_dropWhile
  have h2:l.length-(l.takeWhile f).length=(l.dropWhile f).reverse.length:=by
   have:=congrArg jf h1
   rw[ag]at this
   erw [fS];exact(bJ (gV ai az [(aK ai bH,cQ),(cQ,aK bH az)] aS (pK (dW (gn ai az [(aK ai bH,az)] aS (pK this)))) (lz this)) (gV ai az [(aK bH ai,cQ),(cQ,aK az bH)] aS (pK this) (th _ _)))
  erw [h2]
  conv=>lhs;rw[<- h1,List.reverse_append]
  simp
 have:=key s.reverse;simp only[List.reverse_reverse,fS]at this
 erw [e]
 exact this
def ri:∀{p:List Nat},c∉p->eZ c p= [p]
 | [],_=>rfl
 | x::r,h=>by
  have h0:x≠c:=λe=>h (by simp[e]);have:aX x c=false:=by cases q:aX x c;rfl;exact absurd (aW q) h0
  unfold eZ
  erw [this,(ri (p:=r) λq=>h (.tail _ q))];rfl
def sI:∀{p q:List Nat},c∉p->eZ c (p++c::q)=p::eZ c q
 | [],q,_=>by
  show eZ c (c::q)=_
  rewrite [eZ];erw [fW];rfl
 | x::r,q,h=>by
  have h0:x≠c:=λe=>h (by simp[e]);have:aX x c=false:=by cases q:aX x c;rfl;exact absurd (aW q) h0
  show eZ c (x::(r++c::q))=_
  erw [eZ.eq_def]
  try dsimp only
  erw [this,(sI (p:=r) λq=>h (.tail _ q))];rfl
def rh:∀{ps:List Str},ps≠ []->(∀p∈ps,c∉p.cps.toList)->eZ c (qk (aO [c]) ps).cps.toList=ps.map (·.cps.toList)
 | [],h,_=>absurd rfl h
 | [p],_,h=>ri (h p (.head _))
 | p::q::r,_,h=>by
  show eZ c (p++aO [c]++qk (aO [c]) (q::r)).cps.toList=_
  erw [tZ,tZ,uw,uw]
  show eZ c (p.cps.toList++ [c]++_)=_
  erw [aB,List.singleton_append,sI (h p (.head _)),(rh (by simp) λp hp=>h p (.tail _ hp))]
  rfl
def xk(s:List Nat)(c:Nat):Txt.split (aO s) (aO [c])≠ []:=λe=>by
 have:=PyProof.Rows.split_len (aO s) c;rw[show Txt.split (aO s) ⟨#[c]⟩= []from e]at this;have h2:0<=cnt c (aO s).cps.toList:=by
  exact countIn_zero_le _ _
 have h3:(0:Int)=1+cnt c (aO s).cps.toList:=this;rw[show(1:Int)+cnt c (aO s).cps.toList=cnt c (aO s).cps.toList+1 from Int.add_comm _ _]at h3;exact absurd h3 (Int.ne_of_lt (Int.lt_add_one_of_le h2))
def Cb(s:List Nat)(c:Nat):(Txt.split (aO s) (aO [c])).map (·.cps.toList)=eZ c s:=by
 have h:=rh (c:=c) (xk s c) (StrLaws.split_free (aO s) c);rw[StrLaws.join_split]at h;exact h.symm
def uR{z:List Nat}:∀{ps:List Str},ps≠ []->(∀p∈ps,c∉p.cps.toList)->(qk (aO z) ps).cps.toList=dw c z (qk (aO [c]) ps).cps.toList
 | [],h,_=>absurd rfl h
 | [p],_,h=>(replL_free (h p (.head _))).symm
 | p::q::r,_,h=>by
  show(p++aO z++qk (aO z) (q::r)).cps.toList=dw c z (p++aO [c]++qk (aO [c]) (q::r)).cps.toList;simp only[tZ,uw]
  erw [(uR (ps:=q::r) (by simp) λp hp=>h p (.tail _ hp))]
  show p.cps.toList++z++_=dw c z (p.cps.toList++ [c]++_)
  erw [aB,aB,List.singleton_append,replL_app (h p (.head _))];rfl
where
 replL_free {c:Nat} {z:List Nat}:∀{p:List Nat},c∉p->dw c z p=p
  | [],_=>rfl
  | x::r,h=>by
   have h0:x≠c:=λe=>h (by simp[e]);have:aX x c=false:=by cases q:aX x c;rfl;exact absurd (aW q) h0
   unfold dw
   erw [this,(replL_free (p:=r) λq=>h (.tail _ q))];rfl
 replL_app {c:Nat} {z:List Nat}:∀{p q:List Nat},c∉p->dw c z (p++c::q)=p++(z++dw c z q)
  | [],q,_=>by
   show dw c z (c::q)=_
   rewrite [dw];erw [fW];rfl
  | x::r,q,h=>by
   have h0:x≠c:=λe=>h (by simp[e]);have:aX x c=false:=by cases q:aX x c;rfl;exact absurd (aW q) h0
   show dw c z (x::(r++c::q))=_
   rewrite [dw];erw [this]
   try dsimp only
   erw [(replL_app (p:=r) λq=>h (.tail _ q))];rfl
def xt(s z:List Nat)(c:Nat):Txt.replace (aO s) (aO [c]) (aO z)=aO (dw c z s):=by
 have h:=StrLaws.replace_one (aO s) (aO z) c;refine h.trans (Str.ext' (q9 ?_));have h2:=uR (c:=c) (z:=z) (xk s c) (StrLaws.split_free (aO s) c);rw[StrLaws.join_split]at h2;exact h2
def Bw:∀{s y:List Nat},xQ s=some y->(∀c∈s,c<128)/\y=s.map lo1
 | [],y,h=>by(replace h:=af h;subst h);simp
 | x::r,y,h=>by
  unfold xQ at h
  split at h
  ·cases h
  ·rename_i hb
   refine aM (bL.mp h) λz hz xq1=>?_;subst xq1;obtain⟨h1,xq2⟩:=Bw hz;subst xq2;have:=cM.mp hb;refine⟨λc hc=>?_,?_⟩
   ·rcases aR.mp hc with rfl | hc
    ·exact this
    ·exact h1 c hc
   ·erw [bp]
    congr 1;unfold lo1
    split
    ·rename_i q
     rw[cw]at q
     erw [if_pos ⟨ab q.1,ab q.2⟩];rfl
    ·rename_i q
     rw[if_neg];intro ⟨a,b⟩;rw[rQ a,rQ b]at q;cases q
def Cw{s y:List Nat}(h:xQ s=some y):Txt.lower (aO s)=aO y:=by
 obtain⟨h1,xq3⟩:=Bw h;subst xq3;refine(lower_ascii (x:=aO s) (by simpa [aO]using h1)).trans ?_;simp[aO]
def tj(sep:List Nat):∀xs:List (List Nat),qk (aO sep) (xs.map aO)=aO (oh sep xs)
 | []=>rfl
 | [x]=>rfl
 | x::y::r=>by
  show aO x++aO sep++qk (aO sep) ((y::r).map aO)=_
  erw [tj sep (y::r)]
  exact Str.ext' (q9 (by simp[tZ,oh,aO]))
end
end Mine.Internal
end
section
open PySem PySem.Calls PyProof.Rows PySem.W
namespace Mine.Internal
mutual
abbrev Br:Nat->Str
 | 0=>"append" | 1=>"pop" | 2=>"get" | 3=>"bit_length" | 4=>"find" | 5=>"index" | 6=>"join" | 7=>"lower" | 8=>"replace" | 9=>"rstrip" | _=>"split"
abbrev zW:Nat->String
 | 0=>"list.append" | 1=>"list.pop" | 2=>"dict.get" | 3=>"int.bit_length" | 4=>"str.find" | 5=>"str.index" | 6=>"str.join" | 7=>"str.lower" | 8=>"str.replace" | 9=>"str.rstrip" | _=>"str.split"
structure Wd.Cl(W:Wd):Prop where
 nmI:∀(i j:Nat) (x:Str),W.nm[i]? =some x->W.nm[j]? =some x->i=j
 nmB:∀m,m<=10->W.nm[m]? =some (Br m)
 fld:∀(c f:Nat) (C:Addr) (n:Str),wU W.P c f=true->W.cat c=some C->W.nm[f]? =some n->Ai W.K C n=true
 meth:∀(c m f:Nat) (C:Addr) (n:Str),((W.P.clss[c]?).bind λC=>C.meths.lookup m)=some f->W.cat c=some C->W.nm[m]? =some n->∃fa,W.fa[f]? =some fa/\Bs W.K C n fa=true
 sys:∃o,W.base.get? sysModules=some o
end
section
mutual
variable{f:Nat}{n x name:Str}{fs:List (Nat×AV)}{v:AV}{s:Shared}{t:Tok}{u:Value}{C dx:Addr}
variable{W:Wd}{d:Nat}{H H' au aP dM:Hp}{cx:CX}{ls:Ls}{B:BgT}{ρ:List Addr}
def Lj{a b:Nat}(h:a≠b):aX a b=false:=by
 cases q:aX a b with
 | false=>rfl
 | true=>exact absurd (aW q) h
def EntAre.noRef{es:List DictEntry}(r:EntAre W B ρ fs es):es.any (·.refKey)=false:=
 EntAre.rec (motive:=λzz es zy=>es.any (·.refKey)=false) rfl (λzz zy zx ih=>by erw [oZ,ih];rfl) r
def yc(Cl:W.Cl){g:Nat}(h:f≠g)(hn:W.nm[g]? =some n)(hx:W.nm[f]? =some x):(AG n t).isStr x=false:=by
 show(n==x)=false;rw[beq_eq_false_iff_ne];intro e;subst e;exact h (Cl.nmI f g n hx hn)
def tq:(AG n t).isStr n=true:=by show(n==n)=true;simp
def EntAre.get(Cl:W.Cl)(hx:W.nm[f]? =some x){es:List DictEntry}(r:EntAre W B ρ fs es):
  match jz f fs with
  | some v=> ∃u,VR W B ρ v u/\getL x es=some (some u)
  | none=>es.find? (·.key.isStr x)=none:=by
 induction r with
 | nil=>rfl
 | @cons g n _ _ _ t _ _ hn hv r ih=>
  by_cases e:g=f
  ·subst e;rw[hx]at hn;(replace hn:=af hn;subst hn);unfold jz
   erw [fW]
   refine bI _ hv ?_;unfold getL
   erw [rG]
   simp only[tq]
  ·unfold jz
   erw [Lj e]
   have e':=yc Cl (t:=t) (λq=>e q.symm) hn hx
   try dsimp only
   split <;> rename_i q <;> rw[q]at ih
   ·refine aM ih λu hu hl=>?_;refine bI u hu ?_;unfold getL at hl |-
    erw [rG]
    simp only[e'];have:∀h u,(⟨h, .str n t,u⟩:DictEntry).refKey=false:=λ_ _=>rfl
    erw [oZ,this,Bool.false_or]
    exact hl
   ·erw [rG]
    simp only[e'];exact ih
def EntAre.getNone(Cl:W.Cl)(hx:W.nm[f]? =some x){es:List DictEntry}(h:EntAre W B ρ fs es)(hg:jz f fs=none):getL x es=some none:=by
 have:=h.get Cl hx;rw[hg]at this;unfold getL
 erw [this,h.noRef]
 rfl
def EntAre.isSome(Cl:W.Cl)(hx:W.nm[f]? =some x){es:List DictEntry}(h:EntAre W B ρ fs es):(getL x es).isSome=true:=by
 cases e:jz f fs with
 | none=>erw [h.getNone Cl hx e];rfl
 | some v=>have:=h.get Cl hx;rw[e]at this;refine aM this λu zz q=>?_;erw [q];rfl
def EntAre.put(Cl:W.Cl){f:Nat}(hx:W.nm[f]? =some x)(hv:VR W B ρ v u)(hsh:Int)(t:Tok):∀{fs:List (Nat×AV)} {es:List DictEntry},EntAre W B ρ fs es->
  EntAre W B ρ (oI f v fs) (putL x hsh (.str x t) u es)
 | _,_, .nil=> .cons hx hv .nil
 | _,_, .cons (f:=g) (n:=n) (t:=t') hn hw r=>by
  by_cases e:g=f
  ·subst e;rw[hx]at hn;(replace hn:=af hn;subst hn);unfold oI putL
   erw [fW]
   simp only[tq,if_true];exact .cons hx hv r
  ·unfold oI putL
   erw [Lj e]
   have e':=yc Cl (t:=t') (λq=>e q.symm) hn hx;simp only[e',fF,if_false];exact .cons hn hw (r.put Cl hx hv hsh t)
def EntAre.length:∀{fs:List (Nat×AV)} {es:List DictEntry},EntAre W B ρ fs es->es.length=fs.length
 | _,_, .nil=>rfl
 | _,_, .cons _ _ r=>by erw [aJ,aJ,r.length];rfl
def xw(name:Str)(hsh:Int)(k v:Value):∀es:List DictEntry,(putL name hsh k v es).length<=es.length+1
 | []=>ay _
 | e::r=>by
  have:=xw name hsh k v r;unfold putL;split <;> simp only[aJ] <;> (first | lia | omega)
def wh{A:Around}{E:Value->Shared->Prop}{x:Addr}{es:List DictEntry}{n:Nat}{v:Value}{Q:Value->Shared->Prop}(X:W.K.In s.heap)
  (hx:s.heap.get? x=some (instObj C dx))(hdx:s.heap.get? dx=some (dictOf es n))(hf:Ai W.K C name=true)(hl:getL name es=some (some v))(hh:handedIn v=true)(h:Q v {s with toks:=s.toks+1}):
  wpAny W.M A (getAttr (.ref x) name true) Q E s:=by
 simp only[Ai,cw,beq_iff_eq]at hf;obtain⟨xq1,h5⟩:=hf;obtain⟨xq2,h4⟩:=xq1;obtain⟨xq3,h3⟩:=xq2;obtain⟨h1,h2⟩:=xq3;exact get_value X ⟨hx,rfl,rfl,hdx⟩ (plainGet_of h1).1 (findObj_own (od:=dictOf es n) h2 h3 rfl hl) hh h
set_option tactic.hygienic true in
theorem vM{A:Around}{E:Value->Shared->Prop}{x:Addr}{es:List DictEntry}{n:Nat}{v:Value}{Q:Unit->Shared->Prop}(X:W.K.In s.heap)
  (hx:s.heap.get? x=some (instObj C dx))(hdx:s.heap.get? dx=some (dictOf es n))(hf:Ai W.K C name=true)(hl:(getL name es).isSome=true)(hz:es.length<=900)
  (h:∀h' hsh tk tk',fe dx s.heap h'->h'.get? dx=some (dictOf (putL name hsh (.str name tk) v es) (putN name es n))->Q () {s with heap:=h',toks:=tk'}):
  wpAny W.M A (setAttr (.ref x) name v) Q E s:=by
 simp only[Ai,cw,beq_iff_eq]at hf;obtain⟨xq4,h5⟩:=hf;obtain⟨xq5,h4⟩:=xq4;obtain⟨xq6,h3⟩:=xq5;obtain⟨h1,h2⟩:=xq6;have I:InstAt s.heap x (instObj C dx) C (some (dictOf es n)):=⟨hx,rfl,rfl,hdx⟩;refine set_plain X I h4 ?_;have ht:takerIn W.K C name=some none:=by unfold takerIn;erw [h3];rfl
 refine osa_open (s:={s with toks:=s.toks+1}) X I h5 ht λb=>?_;refine aM (any_some h2) λcd hc hd'=>?_
 try dsimp only
 refine aH (bK (aH (aH (wpAny_loadPart hx (aH (Looks.here (s:={s with toks:=s.toks+1}) (looks_clsIn X hc) ?_))))))
 erw [hd']
 refine bK (a:=some dx) (aH (bK (aH ?_)));unfold nsSet;refine aH (aH (wpAny_askSetting (bK (aH (wpAny_mkText (aH (wpAny_loadPart hdx ?_)))))))
 try dsimp only
 have c:(!es.toArray.any (·.key.isStr name) && es.toArray.any (·.refKey))=false:=by
  erw [<- Array.any_toList,<- Array.any_toList]
  unfold getL at hl
  split at hl
  ·rename_i en he
   erw [List.any_eq_true.mpr (bI en (List.mem_of_find?_eq_some he) (List.find?_some he))];rfl
  ·split at hl
   ·cases hl
   ·rename_i z;rw[Bool.not_eq_true]at z;erw [z,Bool.and_false];rfl
 erw [aRefKeyMayBeTheName_at,c]
 have hu:=rS (Obj.putName name (PyData.keyHash W.w.params name) (.str name (s.toks+1)) v) hdx (by erw [putName_dict];rfl);rw[putName_dict]at hu;refine wpAny_updatePart hdx ?_;refine aH (wpAny_lookBehind hu (pastItsLine_dict (by
  have:=xw name (PyData.keyHash W.w.params name) (.str name (s.toks+1)) v es
  erw [List.size_toArray,sizeLine_eq];exact(bF ai (eT (aI 16777216)) [(ai,cO),(az,aI 900)] aS this hz))) ?_);exact bK (h _ _ _ _ (uv ..) hu)
def Hj(W1:W.Top)(Cl:W.Cl){x:AV}(hn:W.nm[f]? =some n)(h:vh W.P H x f=some v):Na W d H x (λu=>getAttr u n true) λB ρ F s=>PV W B ρ F s v H:=λA B ρ F s u hA hB hR hv=>zG h hv λk a ha h=>je h λc hc h=>by
 cases c using Cell.casesOn with
 | n c fs=>
  refine kE h λho h=>?_;refine w3 (hR.instA ha hc) λdx C es m e2 e3 e4 e5 zz=>?_;have g:=e5.get Cl hn;rw[h]at g;refine aM g λu hu hl=>?_;exact wh (W1.K (hR.base hB)) e3 e4 (Cl.fld _ _ _ _ ho e2 hn) hl hu.handed (d4 B ρ (.refl B ρ) hR (⟨rfl,rfl,rfl⟩) hu)
 | _=>exact dA h
def I4(W1:W.Top)(Cl:W.Cl){e:Expr}{pos:Pos}{x:AV}(hp:iV e=true)(hn:W.nm[f]? =some n)(h:TE W d cx ls H e x au)(ha:vh W.P au x f=some v):TE W d cx ls H (.Attribute e n pos) v au:=by
 intro A B ρ F env s hA hB hE hF hR;refine Attribute_any_ (h.go hA hB hE hF hR λb9 bu u bA cj di cR bY cf dZ=>?_) ?_
 ·exact lA (Hj W1 Cl hn ha A b9 bu F bA u hA di bY dZ) λu s' z=>z.glue cj cf
 ·erw [arm_eval_Attribute];rewrite [kg hp];rfl
def zP(W1:W.Top)(Cl:W.Cl){x:AV}(hn:W.nm[f]? =some n)(h:l6 W.P H x f v=some H'){A:Around}{F:Raws}{y:Value}(hA:AOk A d)(hB:gw W B)(hR:RM W B ρ F H s.heap)(hx:VR W B ρ x u)(hy:VR W B ρ v y):
  wpAny W.M A (setAttr u n y) (PU W B ρ F s H') fh s:=zG h hx λk a ha h=>je h λc hc h=>by
 cases c using Cell.casesOn with
 | n c fs=>
  refine kE h λho h=>?_;refine Kh (hR.instA ha hc) λdx C es m e2 e3 e4 e5 zz e6=>?_;obtain⟨o1,o2⟩:=ae.mp ho
  erw [<- af h]
  exact vM (W1.K (hR.base hB)) e3 e4 (Cl.fld _ _ _ _ o1 e2 hn) (e5.isSome Cl hn) (by erw [e5.length];exact aj (d6 (cM.mp o2)) (ab rfl)) λh' hsh tk tk' k q=>(i7 B ρ (.refl B ρ) (e6 _ _ _ _ k q (e5.put Cl hn hy hsh tk)) (⟨rfl,rfl,rfl⟩))
 | _=>exact dA h
end
end
section
mutual
variable{w:List Nat}{s:Shared}{m k n c:Nat}{F:Raws}{x v:AV}{A:Around}{vs xs:List AV}{t:Tok}{o:Expr}{name:Str}{apos:Pos}{args:List Expr}{u:Value}{f:List AV->Option (AV×Hp)}
variable{W:Wd}{d:Nat}{H H' au aP dM:Hp}{cx:CX}{ls:Ls}{B:BgT}{ρ:List Addr}
def mj{pos:Pos}{env:Env}(hg:e8 o apos pos args=true):
  eval (.Call (.Attribute o name apos) args [] pos) env=(do
   let ov <- eval o env
   standAt apos.atName
   let (f,first) <- holding [ov] (getMethod ov name (do return (<- importBound o env).getD true))
   callWith pos f first (backTo pos (fT args env)) []):=by
 unfold e8 kY at hg;simp only[cw]at hg;refine kI hg λxq1 h3 h4=>?_;obtain⟨h1,h2⟩:=xq1
 erw [arm_eval_Call];rewrite [kg h1]
 have hall:∀(es:List Expr),es.all cv=true->(backTo pos (fT es env)).all (!·.1)=true:=by
  intro es
  induction es with
  | nil=>intro zz;rfl
  | cons e es ih=>
   intro h
   simp only[o5,cw]at h
   rw[dS h.1]
   show(true && _)=true
   erw [Bool.true_and];exact ih h.2
 have hf:methodCallForm (args.length+([]:List Keyword).length) (backTo pos (fT args env)) (backToKw pos (keywordEach [] env))=true:=by
  unfold methodCallForm
  erw [hall _ h3]
  have:=cM.mp h4
  show(true && true && decide (args.length+0+0<30))=true
  erw [Bool.and_self,Bool.true_and]
  exact decide_eq_true (by exact(cA (eT (aK (aK ai (aI 0)) (aI 0))) (aI 30) [(bh,aI 29)] aS this))
 have hp:methodCallPos true o env apos pos=pure pos:=by unfold methodCallPos;simp[h2]
 unfold methodCall calleeOf
 erw [hf]
 simp only[if_true,hp];rfl
def I0{pos:Pos}{fv:BgT->List Addr->Value->Prop}(hg:e8 o apos pos args=true)(h:TE W d cx ls H o x au)(h':TL W d cx ls au args vs aP)
  (gm:∀(A:Around) (B:BgT) (ρ:List Addr) (F:Raws) (s:Shared) (u:Value) (pl:Sem Bool) (Q:Value×List Value->Shared->Prop),AOk A d->gw W B->RM W B ρ F au s.heap->VR W B ρ x u->
   (∀f,(∀h,(∀b o,W.base.get? b=some o->h.get? b=some o)->lQ W.M h f)->Gf W d aP (x::vs) (λus=>call f us) v H'->Q (f,[u]) s)->wpAny W.M A (getMethod u name pl) Q fh s):TE W d cx ls H (.Call (.Attribute o name apos) args [] pos) v H':=by
 intro A B ρ F env s hA hB hE hF hR;have hs:args.all cv=true:=by unfold e8 kY at hg;simp only[cw]at hg;exact hg.2.1
 show wpAny W.M A (eval (.Call (.Attribute o name apos) args [] pos) env) _ _ _
 erw [mj hg]
 refine aH (h.go hA hB hE hF hR λb9 bu u bA cj di cR bY cf dZ=>aH (eh (aH (bX ?_))));refine gm A b9 bu F bA u _ _ hA di bY dZ λf hk op=>?_;refine fA hs (h'.go hA di hE cR bY λfZ d8 us dR eE iJ jc eJ fH gU=>⟨hk _ (eJ.base iJ),?_⟩);exact lA (op A fZ d8 F dR (u::us) hA iJ eJ (.cons (dZ.mono eE) gU)) λzz zy z=>(z.glue eE fH).glue cj cf
def TK(h1:dn 4 m=true)(h2:dn m 10=true):m=4\/m=5\/m=6\/m=7\/m=8\/m=9\/m=10:=by
 exact(of_decide_eq_true rfl:∀m:Nat,m<11->4<=m->m=4\/m=5\/m=6\/m=7\/m=8\/m=9\/m=10) m (lg (ab h2)) (ab h1)
def E1(W1:W.Top)(h:km H x m=true){pl:Sem Bool}{Q:Value×List Value->Shared->Prop}(hA:AOk A d)(hB:gw W B)(hR:RM W B ρ F H s.heap)(hx:VR W B ρ x u)
  (k:Q (.builtin (zW m),[u]) s):wpAny W.M A (getMethod u (Br m) pl) Q fh s:=by
 cases x using AV.casesOn with
 | ref j=>
  refine aM (mV hx) λa e ha=>?_;rw[e]at k |-
  replace h:lH m H[j]? =true:=h;cases hc:H[j]? with
  | none=>rw[hc]at h;exact ly h
  | some c=>
   rw[hc]at h
   cases c using Cell.casesOn with
   | list vs=>
    refine gz (hR.listA ha hc) λits n e2 zz=>?_
    cases m using bM with
    | zero=>exact getMethod_list_append e2 rfl rfl k
    | succ m=>
     cases m using bM with
     | zero=>exact getMethod_builtin (T:="list") (bI _ e2 rfl) PySem.F.plainAttrs_list PySem.F.slot_list_pop PySem.F.type_list_pop (λb e=>Value.ref.inj e ▸⟨_,e2,rfl⟩) k
     | succ m=>exact ly h
   | dict es=>
    refine dY (hR.dictA ha hc) λo kvs e2 xq2 zz=>?_;refine gz xq2 λes ep ex zz=>?_;rw[aW h]at k |-
    exact getMethod_builtin (T:="dict") (bI o e2 ex.1) PySem.F.plainAttrs_dict PySem.F.slot_dict_get PySem.F.type_dict_get (λb e=>Value.ref.inj e ▸⟨o,e2,ex.2.1⟩) k
   | n zz zy=>exact ly h
 | int i=>
  obtain⟨t,e⟩:=rI hx;rw[e,aW h]at k
  erw [e,aW h]
  exact getMethod_int_bit_length k
 | str w=>
  obtain⟨t,e⟩:=my hx;rw[e]at k |-
  obtain⟨h1,h2⟩:=ae.mp h;rcases TK h1 h2 with e | e | e | e | e | e | e <;> rw[e]at k |-
  ·exact GM.find (show Q (.builtin "str.find",_) s from k)
  ·exact GM.index (show Q (.builtin "str.index",_) s from k)
  ·exact GM.join (show Q (.builtin "str.join",_) s from k)
  ·exact GM.lower (show Q (.builtin "str.lower",_) s from k)
  ·exact GM.replace (show Q (.builtin "str.replace",_) s from k)
  ·exact GM.rstrip (show Q (.builtin "str.rstrip",_) s from k)
  ·exact GM.split (show Q (.builtin "str.split",_) s from k)
 | _=>exact ly h
def qu:∀(vs:List AV) (xs:List (List Nat)) (us:List Value),gY vs=some xs->VRs W B ρ vs us->∃l:List (Str×Tok),us=fI l/\l.map (·.1)=xs.map aO
 | [],xs,us,h,r=>by erw [vt r,<- af h];exact bI ([]) rfl rfl
 | v::vs,xs,us,h,r=>by
  refine dY (jm r) λu us' e r rs=>?_
  cases v using AV.casesOn with
  | str w=>
   obtain⟨t,e'⟩:=my r;refine jZ (show(gY vs).map (w::·)=some xs from h) λys hy e2=>?_;refine aM (qu vs ys us' hy rs) λl e3 e4=>?_
   erw [e,e',<- e2,e3]
   exact bI ((aO w,t)::l) rfl (by erw [bp,bp,e4];rfl)
  | _=>exact dA h
def w8:∀(l:List (Str×Tok)) (xs:List (List Nat)),l.map (·.1)=xs.map aO->VRs W B ρ (xs.map .str) (fI l)
 | [],[],h=> .nil
 | [],_::_,h=>nomatch h
 | _::_,[],h=>nomatch h
 | (y,t)::l,x::xs,h=>by
  obtain⟨h1,h2⟩:=dC h;have h1:y=aO x:=h1
  erw [h1]
  exact .cons .str (w8 l xs h2)
def qL(sep:List Nat):∀xs:List (List Nat),((xs.map aO).map Str.length).sum+(xs.map aO).length*(aO sep).length=xs.foldr (λx n=>x.length+sep.length+n) 0
 | []=>by simp
 | x::r=>by
  have ih:=qL sep r;simp only[bp,List.sum_cons,aJ,List.foldr_cons,Nat.succ_mul,cz]at ih |-
  exact(bJ (Aj (aK (aK ai az) (aK bH cQ)) (aK (aK ai cQ) nW) [(aK az bH,nW)] aS (pK ih)) (Aj (aK (aK ai az) bH) (aK (aK ai cQ) (aK nW az)) [(bH,aK cQ nW)] aS (lz ih)))
def Hh{x:List Nat}{us:List Value}{D:Addr}(hR:RM W B ρ F H s.heap)(hd:s.heap.IsList D us.toArray)(hv:VRs W B ρ vs us)(h:j6 x vs=some v):
  wpAny W.M A (call (.builtin "str.join") [.str (aO x) t, .ref D]) (PV W B ρ F s v H) fh s:=by
 unfold j6 at h;cases hx:gY vs with
 | none=>rw[hx]at h;exact dA h
 | some xs=>
  rw[hx]at h
  try dsimp only at h
  cases hb:(cG (xs.foldr (λw n=>w.length+x.length+n) 0) && cG vs.length)with
  | false=>rw[hb]at h;exact dA h
  | true=>
   rw[hb]at h;refine aM (qu _ _ _ hx hv) λl e1 e=>?_;rw[e1]at hd;refine oq h (SC.join hd e ?_ λt' k=>?_)
   ·unfold JoinOk
    erw [StrLaws.joinTotal,qL]
    have:=fg (ae.mp hb).1;have e2:(2:Nat) ^ 24=16777216:=rfl;unfold Builtin.Str.tooLong lB
    erw [decide_eq_false (iA.mpr (aj this (ab rfl)))];rfl
   ·erw [(show Txt.join (aO x) (xs.map aO)=aO (oh x xs)from(StrLaws.glued_eq_join _ _).trans (tj x xs))]
    exact d4 B ρ (.refl B ρ) hR (⟨rfl,rfl,rfl⟩) .str
def DEnt.get{ks:List (List Nat×AV)}{kvs:List (Str×Value)}(r:DEnt W B ρ ks kvs)(x:List Nat):match kB x ks with
  | some v=> ∃u,valueAt kvs (aO x)=some u/\VR W B ρ v u
  | none=>valueAt kvs (aO x)=none:=by
 induction r with
 | nil=>rfl
 | @cons k _ _ _ _ hv r ih=>
  unfold kB;by_cases e:k=x
  ·subst e
   erw [if_pos rfl]
   exact bI _ (by simp[valueAt]) hv
  ·erw [if_neg e]
   have e':¬ (aO k=aO x):=λq=>e (by have:=congrArg (λw:Str=>w.cps.toList) q;simpa [aO]using this);have:∀(u:Value) (es:List (Str×Value)),valueAt ((aO k,u)::es) (aO x)=valueAt es (aO x):=λu es=>by
    unfold valueAt
    erw [rG,decide_eq_false e'];rfl
   erw [this]
   exact ih
def Jw(Cl:W.Cl){F:Raws}{h:Heap}(hB:gw W B){a:Addr}(hb:B a=none):(a==sysModules)=false:=by
 rw[beq_eq_false_iff_ne];intro e;subst e;obtain⟨o,ho⟩:=Cl.sys;rw[hB _ _ ho]at hb;cases hb
def Fx(c:Nat):∀l:List Nat,cnt c l<=l.length
 | []=>by erw [cnt_nil];simp
 | x::r=>by
  have:=Fx c r
  erw [cnt_cons]
  simp only[aJ]
  split <;> (first | lia | omega)
def rq(its:Array Value)(n:Nat)(hne:its.size≠0):Obj.mapSeq (λxs=>xs.eraseIdxIfInBounds (its.size-1)) {cls:= .type "list",data:= .seq its n}={cls:= .type "list",data:= .seq its.pop (n+1)}:=by
 have e:(its.size-1==its.size)=false:=beq_eq_false_iff_ne.mpr (aE (Nat.sub_lt (wL hne) Nat.one_pos));have e2:its.eraseIdxIfInBounds (its.size-1)=its.pop:=by
  apply q9
  unfold Array.eraseIdxIfInBounds
  split
  ·have h1:its.toList.length=its.size:=rfl;simp only[Array.toList_eraseIdx,Array.toList_pop]
   erw [List.eraseIdx_eq_take_drop_succ,rR,h1,(dW (by exact wL hne)),(ll (by exact ay _)),br];rfl
  ·rename_i q;exact absurd (Nat.sub_lt (wL hne) Nat.one_pos) q
 simp[Obj.mapSeq,e2,e]
def xT{A:Around}{E:Value->Shared->Prop}{D:Addr}{its:Array Value}{y:Value}{Q:Value->Shared->Prop}(ho:s.heap.get? D=some {cls:= .type "list",data:= .seq its n})
  (hy:its[its.size-1]? =some y)(hsz:its.size<=lB)
  (h:∀h',fe D s.heap h'->h'.get? D=some {cls:= .type "list",data:= .seq its.pop (n+1)}->Q y {s with heap:=h'}):
  wpAny W.M A (call (.builtin "list.pop") [.ref D]) Q E s:=by
 have hne:its.size≠0:=by
  intro h0
  simp[h0]at hy
 refine call_meets PySem.F.slot_list_pop (bI _ ho rfl) PySem.F.entry_list_pop (PySem.F.args_list_pop_1 _) (PySem.MeetsSeq.list_pop_last D its n y hy hsz) ⟨ho,?_⟩;refine h _ (uv ..) ?_
 erw [(rS _ ho (by erw [rq _ _ hne];rfl)),rq _ _ hne];rfl
def Cp{x z:List Nat}{u v:Tok}(hR:RM W B ρ F H s.heap)(hr:x.contains c=false):
  wpAny W.M A (call (.builtin "str.replace") [.str (aO x) t, .str (aO [c]) u, .str (aO z) v]) (PV W B ρ F s (.str x) H) fh s:=by
 have hc:c∉x:=λq=>by rw[fu.mpr q]at hr;cases hr
 have he:(hV (aO x) (aO [c]) 0 (aO x).length ((aO x).length+1)).isEmpty=true:=by
  rcases StrLaws.occ_head (aO x) (aO [c]) ((aO x).length+1) (by omega)with⟨h0,_⟩ | ⟨i,r,_,h1,_⟩
  ·erw [h0];rfl
  ·exact absurd (bN ((wC x c i).mp h1)) hc
 refine call_gives PySem.F.slot_str_replace (typeIs_str _ _ _) PySem.F.entry_str_replace (PySem.F.args_str_replace_3 _ _ _) (gives_str_replace _ _ _ _ _ _ λq=>by rw[he]at q;cases q) ?_
 erw [he]
 exact d4 B ρ (.refl B ρ) hR (⟨rfl,rfl,rfl⟩) .str
def Eh{x:List Nat}{u:Tok}(hR:RM W B ρ F H s.heap)(hr:x.length<=1000000):
  wpAny W.M A (call (.builtin "str.split") [.str (aO x) t, .str (aO [c]) u]) (PV W B ρ F s (.ref H.length) (H++ [.list ((eZ c x).map .str)])) fh s:=by
 have hb:=d0;have fin:∀(l:List (Str×Tok)) (tk:Nat),l.map (·.1)=Txt.split (aO x) (aO [c])->PV W B ρ F s (.ref H.length) (H++ [.list ((eZ c x).map .str)]) (.ref s.heap.objs.size) {s with heap:=s.heap.push {cls:= .type "list",data:= .seq (fI l).toArray},toks:=tk}:=by
  intro l tk e
  have hl:=hR.len
  have e2:l.map (·.1)=(eZ c x).map aO:=by
   erw [e,<- Cb x c,iC]
   simp[Function.comp_def,gZ]
  have:=hR.newList (w8 (W:=W) (B:=B) (ρ:=ρ) _ _ e2)
  exact d4 B _ (.push B ρ _) this (⟨rfl,rfl,rfl⟩) (.ref (by erw [<- hl];simp))
 have hlen:(Txt.split (aO x) (aO [c])).length<=lB:=by
  have h1:=PyProof.Rows.split_len (aO x) c
  have h2:=Fx c (aO x).cps.toList
  have h3:(aO x).cps.toList.length=x.length:=rfl
  have h4:(((Txt.split (aO x) (aO [c])).length:Nat):Int)=1+cnt c (aO x).cps.toList:=h1
  lia
 cases h1:(decide ((aO x).length<(aO [c]).length) || decide (Builtin.Str.strKind (aO x)<Builtin.Str.strKind (aO [c])))
 ·cases hf:(hV (aO x) (aO [c]) 0 (aO x).length ((aO x).length+1)).isEmpty
  ·have es:Txt.split (aO x) (aO [c])=Builtin.Str.partsBetween (aO x) (hV (aO x) (aO [c]) 0 (aO x).length ((aO x).length+1)) (aO [c]).length:=(if_neg (ne_true_of_eq_false h1)).trans (if_neg (ne_true_of_eq_false hf));refine call_meets PySem.F.slot_str_split (typeIs_str _ _ _) PySem.F.entry_str_split (PySem.F.args_str_split_2 _ _) (meets_str_split_sep (aO x) (aO [c]) t u h1 rfl hf (by erw [cz];exact aj hr (ab rfl)) (by erw [<- es];exact hlen)) ?_;show wants _ _ _ {s with toks:=_,heap:=s.heap.push {cls:= .type "list",data:= .seq (strsFrom s.toks (Builtin.Str.partsBetween (aO x) (hV (aO x) (aO [c]) 0 (aO x).length ((aO x).length+1)) (aO [c]).length)).toArray}}
   erw [strsFrom_eq]
   exact fin (numbered s.toks _) _ ((numbered_texts _ _).trans es.symm)
  ·exact call_meets PySem.F.slot_str_split (typeIs_str _ _ _) PySem.F.entry_str_split (PySem.F.args_str_split_2 _ _) (meets_str_split_not_found (aO x) (aO [c]) t u h1 rfl hf)
    (fin [(aO x,t)] s.toks ((if_neg (ne_true_of_eq_false h1)).trans (if_pos hf)).symm)
 ·exact call_meets PySem.F.slot_str_split (typeIs_str _ _ _) PySem.F.entry_str_split (PySem.F.args_str_split_2 _ _) (meets_str_split_cannot_occur (aO x) (aO [c]) t u h1)
   (fin [(aO x,t)] s.toks (if_pos h1).symm)
noncomputable abbrev AN(W:Wd)(d:Nat)(H H':Hp)(m:Nat)(x:AV)(f:List AV->Option (AV×Hp)):Prop:= ∀(vs:List AV) (v:AV),f vs=some (v,H')->Gf W d H (x::vs) (λus=>call (.builtin (zW m)) us) v H'
def s8(k:∀(A:Around) (B:BgT) (ρ:List Addr) (F:Raws) (s:Shared) (vs:List AV) (us:List Value) (v:AV) (t:Tok),AOk A d->RM W B ρ F H s.heap->VRs W B ρ vs us->f vs=some (v,H')->wpAny W.M A (call (.builtin (zW m)) (.str (aO w) t::us)) (PV W B ρ F s v H') fh s):AN W d H H' m (.str w) f:=λvs v h A B ρ F s us hA hB hR hv=>by
 refine dY (jm hv) λu us' e r hv=>?_;obtain⟨t,e'⟩:=my r
 erw [e,e']
 exact k A B ρ F s vs us' v t hA hR hv h
def ph{B:BgT}{ρ:List Addr}{tk:Nat}(hR:RM W B ρ F H s.heap)(r:VR W B ρ v u):PV W B ρ F s v H u {s with toks:=tk}:=(d4 B ρ (.refl B ρ) hR (⟨rfl,rfl,rfl⟩) r)
def Lp:AN W d H H' 4 (.str w) λvs=>Bu w vs H:=s8 λA B ρ F s vs us v t hA hR hv h=>by
 cases vs using aw with
 | nil=>exact dA h
 | cons x vs=>
  refine dY (jm hv) λu us' e r hv=>?_
  erw [e]
  refine sx (show iq x _=some (v,H')from h) r λy t' h=>zR h λc h=>?_
  cases vs using aw with
  | nil=>
   erw [vt hv]
   refine gi h (SC.find ?_);have:Txt.find (aO w) (aO [c])=pX (gh c w) 0:=by
    have ho:=vU w c 0
    rw[nG]at ho
    unfold Txt.find
    cases q:gh c w with
    | none=>rw[q]at ho;try dsimp only at ho;erw [ho];rfl
    | some j=>rw[q]at ho;obtain⟨r,ho⟩:=ho;erw [ho];rfl
   erw [this]
   exact ph hR .int
  | cons z vs=>
   refine dY (jm hv) λu' us'' e r' hv=>?_
   erw [e]
   refine v0 (G:=λus=>wpAny W.M A (call (.builtin (zW 4)) (.str (aO w) t:: .str (aO [c]) t'::u'::us)) (PV W B ρ F s v H') fh s) (show FV vs _=some (v,H')from h) hv λh=>mS h r' λi t'' h=>Lk h λn h=>gi h (SC.find3 ?_);have:Txt.find3 (aO w) (aO [c]) (n:Int)=pX (gh c (w.drop n)) n:=by
    have ho:=vU w c n
    have ei:PySem.fromIndex (aO w).length (n:Int)=n:=by
     unfold PySem.fromIndex
     erw [if_neg (jg.mpr (fE n))]
     exact Int.toNat_natCast n
    unfold Txt.find3
    erw [ei]
    cases q:gh c (w.drop n)with
    | none=>rw[q]at ho;try dsimp only at ho;erw [ho];rfl
    | some j=>rw[q]at ho;obtain⟨r,ho⟩:=ho;erw [ho];rfl
   erw [this]
   exact ph hR .int
def HB:AN W d H H' 5 (.str w) λvs=>Ey w vs H:=s8 λA B ρ F s vs us v t hA hR hv h=>v1 (G:=λus=>wpAny W.M A (call (.builtin (zW 5)) (.str (aO w) t::us)) (PV W B ρ F s v H') fh s) h hv λx u r h=>sx h r λy t' h=>zR h λc h=>jZ h λi hi e=>by
 have ho:=vU w c 0;rw[nG,hi]at ho;obtain⟨r,ho⟩:=ho;rw[ji]at ho
 erw [<- (aD e).1,<- (aD e).2]
 exact SC.index ho (ph hR .int)
def Lo:AN W d H H' 6 (.str w) λvs=>JA w vs H:=s8 λA B ρ F s vs us v t hA hR hv h=>v1 (G:=λus=>wpAny W.M A (call (.builtin (zW 6)) (.str (aO w) t::us)) (PV W B ρ F s v H') fh s) h hv λx u r h=>zG h r λk a ha h=>je h λxs hx h=>jZ h λy hy e=>by
 refine aM (eB hR hx ha) λits p q=>?_
 erw [<- (aD e).1,<- (aD e).2]
 exact Hh hR p q hy
def HA:AN W d H H' 7 (.str w) λvs=>Ex w vs H:=s8 λA B ρ F s vs us v t hA hR hv h=>v0 (G:=λus=>wpAny W.M A (call (.builtin (zW 7)) (.str (aO w) t::us)) (PV W B ρ F s v H') fh s) h hv λh=>kE h λhr h=>jZ h λy hy e=>by
 erw [<- (aD e).1,<- (aD e).2]
 refine SC.lower (fit_lower (by erw [cz];exact aj (fg hr) (ab rfl))) ?_
 erw [Cw hy]
 exact ph hR .str
def Ln:AN W d H H' 8 (.str w) λvs=>Jz w vs H:=s8 λA B ρ F s vs us v t hA hR hv h=>v2 (G:=λus=>wpAny W.M A (call (.builtin (zW 8)) (.str (aO w) t::us)) (PV W B ρ F s v H') fh s) h hv λx y u u' r r' h=>sx h r λzz t' h=>zR h λc h=>sx h r' λz t'' h=>kE h λhb h=>gi h (Cp hR (by cases q:w.contains c with | false=>rfl | true=>rw[q]at hb;exact ly hb))
def Et:AN W d H H' 9 (.str w) λvs=>Bt w vs H:=s8 λA B ρ F s vs us v t hA hR hv h=>v1 (G:=λus=>wpAny W.M A (call (.builtin (zW 9)) (.str (aO w) t::us)) (PV W B ρ F s v H') fh s) h hv λx u r h=>sx h r λzz t' h=>zR h λc h=>kE h λhr h=>gi h (SC.rstripChars (hsz:=by erw [cz];exact aj (fg hr) (aj (ab rfl) d0)) λt' k=>by
 erw [zF]
 exact ph hR .str)
def Hz:AN W d H H' 10 (.str w) λvs=>Ew w vs H:=s8 λA B ρ F s vs us v t hA hR hv h=>v1 (G:=λus=>wpAny W.M A (call (.builtin (zW 10)) (.str (aO w) t::us)) (PV W B ρ F s v H') fh s) h hv λx u r h=>sx h r λzz t' h=>zR h λc h=>kE h λhr h=>gi h (Eh hR (fg hr))
def Eu(hc:H[k]? =some (.list xs)):AN W d H H' 0 (.ref k) λvs=>Bv k xs vs H:=λvs v h A B ρ F s us hA hB hR hv=>by
 refine dY (jm hv) λu us' e r hv=>?_;refine aM (mV r) λa e' ha=>?_;refine fy (hR.listA ha hc) λits n e2 e3 e4 e5=>?_
 erw [e,e']
 refine v1 (G:=λus=>wpAny W.M A (call (.builtin (zW 0)) (.ref a::us)) (PV W B ρ F s v H') fh s) h hv λx u r h=>kE h λhr h=>gi h (append_at (hsz:=by erw [(show its.toArray.size=xs.length from e3.length)];exact aj (fg hr) (aj (ab rfl) d0)) e2 λh' k q=>?_);rw[List.push_toArray]at q;exact d4 B ρ (.refl B ρ) (e5 _ _ _ _ k q (e3.append (.cons r .nil))) (⟨rfl,rfl,rfl⟩) .none
def NW(hc:H[k]? =some (.list xs)):AN W d H H' 1 (.ref k) λvs=>NZ k xs vs H:=λvs v h A B ρ F s us hA hB hR hv=>by
 refine dY (jm hv) λu us' e r hv=>?_;refine aM (mV r) λa e' ha=>?_;refine fy (hR.listA ha hc) λits n e2 e3 e4 e5=>?_
 erw [e,e']
 refine v0 (G:=λus=>wpAny W.M A (call (.builtin (zW 1)) (.ref a::us)) (PV W B ρ F s v H') fh s) h hv λh=>kE h λhr h=>jZ h λy hy e=>?_
 erw [<- (aD e).1,<- (aD e).2]
 rw[List.getLast?_eq_getElem?,<- e3.length]at hy;refine aM (e3.get hy) λw hw hvr=>?_;refine xT (hsz:=by erw [(show its.toArray.size=xs.length from e3.length)];exact aj (fg hr) (aj (ab rfl) d0)) e2 (y:=w) (by erw [dI];exact hw) λh' k q=>?_;rw[show its.toArray.pop=its.dropLast.toArray by simp]at q;exact d4 B ρ (.refl B ρ) (e5 _ _ _ _ k q e3.dropLast) (⟨rfl,rfl,rfl⟩) hvr
def NY(Cl:W.Cl){es:List (List Nat×AV)}(hc:H[k]? =some (.dict es)):AN W d H H' 2 (.ref k) λvs=>N0 es vs H:=λvs v h A B ρ F s us hA hB hR hv=>by
 refine dY (jm hv) λu us' e r hv=>?_;refine aM (mV r) λa e' ha=>?_;refine uc (hR.dictA ha hc) λo kvs e2 e3 e4 e5 zz=>?_
 erw [e,e']
 refine v2 (G:=λus=>wpAny W.M A (call (.builtin (zW 2)) (.ref a::us)) (PV W B ρ F s v H') fh s) h hv λx y u u' r r' h=>sx h r λw t h=>gi h ?_;have hm:s.heap.DictOf (PySem.strKind W.prog W.w) a kvs:=rH.mpr (bI o e2 e3);have g:=e4.get w;refine call_meetsIn PySem.F.slot_dict_get hm.typeIs PySem.F.entry_dict_get (PySem.F.args_dict_get_3 _ _ _) (meets_dict_get_default (PySem.strKind W.prog W.w) (k:=aO w) a (beq_self_eq_true _) (Jw (F:=F) (h:=s.heap) Cl hB e5) _) (bI _ hm.mapOf ?_);show PV W B ρ F s _ H _ _;cases q:kB w es with
 | none=>rw[q]at g;try dsimp only at g;erw [g];exact d4 B ρ (.refl B ρ) hR (⟨rfl,rfl,rfl⟩) r'
 | some y=>rw[q]at g;refine aM g λz g1 g2=>?_;erw [g1];exact d4 B ρ (.refl B ρ) hR (⟨rfl,rfl,rfl⟩) g2
def Lq{i:Int}:AN W d H H' 3 (.int i) λvs=>FV vs (some (.int ((gW i:Nat)),H)):=λvs v h A B ρ F s us hA hB hR hv=>by
 refine dY (jm hv) λu us' e r hv=>?_;obtain⟨t,e'⟩:=rI r
 erw [e,e']
 exact v0 (G:=λus=>wpAny W.M A (call (.builtin (zW 3)) (.int i t::us)) (PV W B ρ F s v H') fh s) h hv λh=>gi h (call_int_bit_length (d4 B ρ (.refl B ρ) hR (⟨rfl,rfl,rfl⟩) .int))
def AN.at(h:AN W d H H' n x f)(e:aX m n=true):AN W d H H' m x f:=aW e ▸h
def Bl(Cl:W.Cl)(h:kR x m vs H=some (v,H')):Gf W d H (x::vs) (λus=>call (.builtin (zW m)) us) v H':=by
 cases x using AV.casesOn with
 | str w=>exact nw h (λe h=>Lp.at e _ _ h) λzz h=>nw h (λe h=>HB.at e _ _ h) λzz h=>nw h (λe h=>Lo.at e _ _ h) λzz h=>nw h (λe h=>HA.at e _ _ h) λzz h=>nw h (λe h=>Ln.at e _ _ h) λzz h=>nw h (λe h=>Et.at e _ _ h) λzz h=>kE h λe h=>Hz.at e _ _ h
 | int i=>exact kE h λe h=>Lq.at e _ _ h
 | ref k=>
  refine je h λc hc h=>?_
  cases c using Cell.casesOn with
  | list xs=>exact nw h (λe h=>(Eu hc).at e _ _ h) λzz h=>kE h λe h=>(NW hc).at e _ _ h
  | dict es=>exact kE h λe h=>(NY Cl hc).at e _ _ h
  | n zz zy=>exact dA h
 | _=>exact dA h
end
end
mutual
structure Wd.Ci(W:Wd):Prop where
 own:∀(c:Nat) (C:Addr),W.cat c=some C->IF W.K C=true
 two:∀(c c':Nat) (C C':Addr),c≠c'->W.cat c=some C->W.cat c'=some C'->kin_not W.K C C'=true
 objs:∀(i:Nat) (a:Addr) (c:Nat),W.oa[i]? =some a->W.P.objs[i]? =some c->∃C dx es n,W.cat c=some C/\W.base.get? a=some (instObj C dx)/\W.base.get? dx=some (dictOf es n)
 hn:specialIn W.K (.builtin "object.__class__") "__get__"=some (some (.builtin "getset_descriptor.__get__"))
 htk:takesIn W.K (.builtin "object.__class__")=some true
abbrev P9(W:Wd):IK->Value->Prop
 | .bool,v=>v= .type "bool"
 | .int,v=>v= .type "int"
 | .cls c,v=> ∃C,W.cat c=some C/\v= .ref C
end
section
mutual
variable{kv:Value}{x:AV}{q:Bool}{f:Str}
variable{W:Wd}{d:Nat}{H H' au aP dM:Hp}{cx:CX}{ls:Ls}{B:BgT}{ρ:List Addr}
def ya(W1:W.Top)(Ci:W.Ci){A:Around}{F:Raws}{s:Shared}{a dx C:Addr}{es:List DictEntry}{n c:Nat}{k:IK}(hB:gw W B)(hR:RM W B ρ F H s.heap)(hC:W.cat c=some C)(hx:s.heap.get? a=some (instObj C dx))(hdx:s.heap.get? dx=some (dictOf es n))(hk:P9 W k kv):
  wpAny W.M A (call (.builtin "isinstance") [.ref a,kv]) (PV W B ρ F s (.bool (Cy k c)) H) fh s:=by
 have X:=W1.K (hR.base hB);have I:InstAt s.heap a (instObj C dx) C (some (dictOf es n)):=⟨hx,rfl,rfl,hdx⟩;have hc:=Ci.own _ _ hC;simp only[IF,cw,beq_iff_eq]at hc;obtain⟨xq1,h9⟩:=hc;obtain⟨xq2,h8⟩:=xq1;obtain⟨xq3,h7⟩:=xq2;obtain⟨xq4,h6⟩:=xq3;obtain⟨xq5,h5⟩:=xq4;obtain⟨xq6,h4⟩:=xq5;obtain⟨xq7,h3⟩:=xq6;obtain⟨h1,h2⟩:=xq7;have fin:∀{b:Bool} {tk:Nat},PV W B ρ F s (.bool b) H (.bool b) {s with toks:=tk}:=dQ hR rfl ⟨rfl,rfl,rfl⟩
 cases k using IK.casesOn with
 | bool=>erw [(show kv= .type "bool" from hk)];exact kin_callT X I h8 (by rfl) h1 h2 h3 Ci.hn Ci.htk h4 fin
 | int=>erw [(show kv= .type "int" from hk)];exact kin_callT X I h9 (by rfl) h1 h2 h3 Ci.hn Ci.htk h4 fin
 | cls c'=>
  refine aM hk λC' hC' e=>?_
  erw [e]
  show wpAny W.M A _ (PV W B ρ F s (.bool (aX c c')) H) fh s;by_cases e:c=c'
  ·rw[<- e]at hC' |-
   erw [<- af (hC.symm.trans hC'),fW]
   exact isi_call X (λM=>I.type) h5 (λq=>nomatch q) fin
  ·erw [Lj e]
   exact kin_callC X I (Ci.two _ _ _ _ e hC hC') h1 h2 h3 Ci.hn Ci.htk h4 fin
def KY(W1:W.Top)(Ci:W.Ci){k:IK}(hk:P9 W k kv)(h:kx W.P H k x=some q):Na W d H x (λu=>call (.builtin "isinstance") [u,kv]) λB ρ F s=>PV W B ρ F s (.bool q) H:=by
 intro A B ρ F s u hA hB hR hv;have fin:∀{b:Bool} {tk:Nat},PV W B ρ F s (.bool b) H (.bool b) {s with toks:=tk}:=dQ hR rfl ⟨rfl,rfl,rfl⟩;have own:∀{c:Nat} {C:Addr},W.cat c=some C->isNotIn W.K "int" C=true/\isNotIn W.K "bool" C=true:=λhC=>by
  have hc:=Ci.own _ _ hC
  simp only[IF,cw]at hc
  exact⟨hc.1.1.1.2,hc.1.1.2⟩
 cases x using AV.casesOn with
 | bool b=>
  erw [n5 hv]
  refine oq h ?_
  cases k using IK.casesOn with
  | bool=>erw [(show kv= .type "bool" from hk)];exact IsiPair.bool_bool fin
  | int=>erw [(show kv= .type "int" from hk)];exact IsiPair.bool_int fin
  | cls c=>
   refine aM hk λC hC e=>?_
   erw [e]
   exact isn_call (P:=λzz=>True) (W1.K (hR.base hB)) (λM=>Looks.of_pure rfl) (own hC).2 (λq=>nomatch q) trivial bool_cls fin
 | int i=>
  obtain⟨t,e⟩:=rI hv
  erw [e]
  refine oq h ?_
  cases k using IK.casesOn with
  | bool=>erw [(show kv= .type "bool" from hk)];exact IsiPair.int_bool fin
  | int=>erw [(show kv= .type "int" from hk)];exact IsiPair.int_int fin
  | cls c=>
   refine aM hk λC hC e=>?_
   erw [e]
   exact isn_call (P:=λzz=>True) (W1.K (hR.base hB)) (λM=>Looks.of_pure rfl) (own hC).1 (λq=>nomatch q) trivial int_cls fin
 | obj i=>
  refine aM (Gy hv) λa e ha=>?_
  erw [e]
  refine jZ h λc' hc' e2=>?_;refine w6 (Ci.objs _ _ _ ha hc') λC dx es n e1 e2' e3=>?_
  erw [<- e2]
  exact ya W1 Ci hB hR e1 (hR.base hB _ _ e2') (hR.base hB _ _ e3) hk
 | ref i=>
  refine aM (mV hv) λa e ha=>?_
  erw [e]
  refine je h λc hc h=>?_
  cases c using Cell.casesOn with
  | n c' fs=>
   refine w5 (hR.instA ha hc) λdx C es m e2 e3 e4 zz=>?_;exact oq h (ya W1 Ci hB hR e2 e3 e4 hk)
  | _=>exact dA h
 | _=>exact dA h
def wH(W1:W.Top){p pos:Pos}{args:List Expr}{fv:Value}{vs:List AV}{v:AV}(ho:Ej f=false)(hs:cx.scope.names.lookup f=some .globalImplicit)(hg:Gl W f fv)(ha:args.all cv=true)
  (hk:∀h,(∀b o,W.base.get? b=some o->h.get? b=some o)->lQ W.M h fv)(h:TL W d cx ls H args vs au)(op:Gf W d au vs (λus=>call fv us) v H'):TE W d cx ls H (.Call (.Name f p) args [] pos) v H':=by
 intro A B ρ F env s hA hB hE hF hR;refine wpAny_Call_NameR (kD W1 hE (kQ ho).1 hg hs (hR.base hB) (fA ha (h.go hA hB hE hF hR λb9 bu us bA cj di cR bY cf dZ=>⟨hk _ (bY.base di),?_⟩)));exact lA (op A b9 bu F bA us hA di bY dZ) λzz zy z=>z.glue cj cf
def Mz(W1:W.Top)(Ci:W.Ci){g:Str}{p pos pos':Pos}{a:Expr}{k:IK}(ho:Ej f=false)(ho':Ej g=false)(hs:cx.scope.names.lookup f=some .globalImplicit)(hs':cx.scope.names.lookup g=some .globalImplicit)(hg:Gl W f (.builtin "isinstance"))(hg':Gl W g kv)(hk:P9 W k kv)
  (ha:cv a=true)(h:TE W d cx ls H a x au)(hq:kx W.P au k x=some q):TE W d cx ls H (.Call (.Name f p) [a, .Name g pos'] [] pos) (.bool q) au:=by
 intro A B ρ F env s hA hB hE hF hR;refine wpAny_Call_NameR (kD W1 hE (kQ ho).1 hg hs (hR.base hB) (fA (by erw [o5,ha];rfl) ?_));rw[dS ha];refine spliced_cons (h.go hA hB hE hF hR λb9 bu u bA cj di cR bY cf dZ=>?_);rw[dS (by rfl)];refine spliced_cons (kD W1 hE (kQ ho').1 hg' hs' (bY.base di) (spliced_nil ⟨fU _,?_⟩));exact lA (KY W1 Ci hk hq A b9 bu F bA u hA di bY dZ) λzz zy z=>z.glue cj cf
end
end
end Mine.Internal
end
section
open PySem PySem.Calls PyProof.Rows PySem.W
open Builtin Builtin.Str
namespace Mine.Internal
mutual
def Ep:typeLookup (.type "list_reverseiterator") "__len__"=pure none:=by erw [typeLookup_type,builtinLookup_eq_fast];kernel_rfl
def HU:typeLookup (.type "list_reverseiterator") "__length_hint__"=pure (some (.builtin "list_reverseiterator.__length_hint__")):=by erw [typeLookup_type,builtinLookup_eq_fast];kernel_rfl
end
section
mutual
variable{prog:Program}{w:World}{A:Around}{E:Value->Shared->Prop}{s:Shared}{I:Addr}{fp wr:List Addr}{G:Array GenState->Array GenState->Prop}{n:Nat}{P:Nat->Value->Prop}{St:Nat->Shared->Prop}
def yE{Q:List Value->Shared->Prop}
  (W:WalksS prog w A.in1 I fp wr G n P St)(hT:∀i s,St i s->s.TypeIs (.ref I) "list_reverseiterator")(hst:St 0 s)(hfp:∀b∈fp,b<s.heap.objs.size)(hI:I∈fp)(hn:n<=lB)
  (hQ:∀s' acc,Moved wr G s s'->ItemsOf P acc n->Q acc.toList s'):wpAny (model prog w) A (collect (.ref I)) Q E s:=by
 have hSf:s.heap.objs.size∉fp:=λhm=>jU _ (hfp _ hm);have hSI:s.heap.objs.size≠I:=λe=>hSf (e ▸hI);unfold collect;refine aH (wpAny_runValue (codeAny_builtin F.entry_proto_collect ?_))
 erw [Around.under_plainId F.plain_proto_collect _]
 show wpAny _ A.in1 (newList [] >>=λl=>again (.builtin "list.__iadd__" ⟨[l, .ref I],[]⟩)) _ _ s;refine aH (wpAny_newObj_type ?_);refine bK ⟨plainId_quiet F.plain_list_iadd _,codeAny_builtin F.entry_list_iadd ?_⟩
 erw [Around.under_plainId F.plain_list_iadd _]
 have qN:=W.frame 0 s (s.heap.push {cls:= .type "list",data:= .seq ([]:List Value).toArray}) s.toks hst (ay _) λb zz o e=>cH _ e;have On:(s.heap.push {cls:= .type "list",data:= .seq ([]:List Value).toArray}).get? s.heap.objs.size=some {cls:= .type "list",data:= .seq ([]:List Value).toArray}:=dE _ rfl;have h1:Builtin.List.listSameRef (.ref s.heap.objs.size) (.ref I)=false:=by simp[Builtin.List.listSameRef,hSI]
 show wpAny _ A.in1 (Dn (.ref s.heap.objs.size) (.ref I) (.ref s.heap.objs.size)) _ _ _;unfold Dn;refine aH (wpAny_typeOf (hT 0 _ qN) ?_)
 erw [(if_neg (by erw [h1];decide))]
 refine aH (W.self 0 _ _ _ qN ?_);refine aH (bX ?_);unfold Builtin.List.listLengthHint;refine aH (wpAny_specialOf (hT 0 _ qN) Ep ?_);show wpAny _ A.in1 (specialOf (Value.ref I) (aa "__length_hint__") >>=_) _ _ _;refine aH (wpAny_specialOf (hT 0 _ qN) HU ?_);generalize hid:("list_reverseiterator.__length_hint__":String)=id0
 wp_delta
 erw [(show splitId id0=some ("list_reverseiterator","__length_hint__")from by subst hid;decide+kernel)]
 subst hid;refine aH (wpAny_isInstance (b:=true) (hT 0 _ qN) (by erw [isSubtype_type];kernel_rfl) ?_);refine bK ?_
 erw [(if_neg (by decide))]
 refine bK ⟨plainId_quiet F.plain_extend_loop _,codeAny_extend_loopS W hn _ hSf _ n 0 _ _ _ rfl (aY _) qN On (ItemsOf.nil P) λs' acc' c' hm hS' hacc=>?_⟩;show wpAny _ A (load s.heap.objs.size >>=_) _ _ s';refine aH (wpAny_load hS' ?_);exact bK (hQ s' acc' (Moved.drop_new (o:={cls:= .type "list",data:= .seq ([]:List Value).toArray}) (tk:=s.toks) hm (ay _)) hacc)
def EK{x:Str}{t:Tok}{Q:Value->Shared->Prop}(W:WalksS prog w A.in1.in1 I fp wr G n P St)(hT:∀i s,St i s->s.TypeIs (.ref I) "list_reverseiterator")(hst:St 0 s)(hfp:∀b∈fp,b<s.heap.objs.size)(hI:I∈fp)
  (hstr:∀i v,P i v->∃y u,v=AG y u)(hsz:n<=lB)
  (hq:∀s' (l:List (Str×Tok)),Moved wr G s s'->ItemsOf P (fI l).toArray n->JoinOk x (l.map (·.1))=true/\∀t' k,Q (.str (Txt.join x (l.map (·.1))) t') {s' with toks:=k}):
  wpAny (model prog w) A (call (.builtin "str.join") [.str x t, .ref I]) Q E s:=by
 refine wpAny_call (codeAny_call_builtin F.slot_str_join.plain F.entry_str_join (F.slot_str_join.check _ _ _ _ _ _ _ _ (typeIs_str _ _ _) (F.args_str_join_2 _ _) ?_))
 erw [join_tree_other]
 refine aH (wpAny_typeOf (hT 0 s hst) ?_);show wpAny _ A.in1 ((pyIter (.ref I)).tryCatch _ >>=λit=>collect it >>=λitems=>joinTail x items) _ _ s;refine aH (wpAny_tryCatch (W.of_in1.self 0 s _ _ hst ?_));refine aH (yE W hT hst hfp hI hsz λs' acc hm hacc=>?_);obtain⟨l,hl⟩:=exists_strValues acc.toList λv hv=>by
  obtain⟨j,hj,xq1⟩:=Array.mem_iff_getElem.mp (Array.mem_toList_iff.mp hv);subst xq1
  exact hstr j _ (hacc.2 j _ (Array.getElem?_eq_getElem hj))
 erw [<- hl]
 have hacc':ItemsOf P (fI l).toArray n:=by erw [hl];simpa using hacc
 obtain⟨hok,hpost⟩:=hq s' l hm hacc';unfold JoinOk at hok;rw[gM]at hok;have g:Gives (joinTail x (fI l)) (joinMade x l):=by
  have g0:=gives_joinTail x l hok
  cases l using aw with
  | nil=>exact g0
  | cons p r=>cases r using aw with
   | nil=>exact g0
   | cons q r'=>exact g0
 exact g prog w A (wants Q E) s' (post_join l ⟨joinFit_length hok,hpost⟩)
end
end
end Mine.Internal
end
section
open PySem PySem.Calls PyProof.Rows PySem.W PyProof.V
namespace Mine.Internal
section
mutual
variable{v w:AV}{sp:List Nat}{s:Shared}{apos:Pos}{c1:Nat}{x:Expr}{vs:List AV}
variable{W:Wd}{d:Nat}{H H' au aP dM:Hp}{cx:CX}{ls:Ls}{B:BgT}{ρ:List Addr}
def PV.dropF{F1 F:Raws}{u:Value}{s':Shared}(h:PV W B ρ (F1++F) s v H' u s'):PV W B ρ F s v H' u s':=
 fy h λB' ρ' g R r z=>⟨B',ρ',g,R.dropF,r,z⟩
def xR{D:List (PyData×PyData)}:∀{t:List (Int×List Nat)},C0 D=some t->∀i:Int,PySem.Spec.lookup (.int i) D=(t.lookup i).map λs=> .str (aO s):=by
 induction D with
 | nil=>intro t h i;erw [<- af h];rfl
 | cons p r ih=>
  intro t h i;rcases p with⟨k,v⟩
  cases k using PyData.casesOn with
  | int j=>cases v using PyData.casesOn with
   | str s=>
    refine aM (bL.mp h) λt' ht e=>?_
    erw [<- e]
    have ih:=ih ht i;by_cases e:j=i
    ·subst e;simp[PySem.Spec.lookup,same_int,gc,gZ]
    ·have e2:(i==j)=false:=beq_eq_false_iff_ne.mpr λq=>e q.symm;simp only[PySem.Spec.lookup,same_int,gc,e2];simpa [e]using ih
   | _=>exact dA h
  | _=>exact dA h
def I2(Cl:W.Cl){ks:List (Option Expr)}{vs:List Expr}{kp pos:Pos}{k dv:Expr}{D:List (PyData×PyData)}{t:List (Int×List Nat)}{i:Int}{y:List Nat}(hg:e8 (.Dict ks vs kp) apos pos [k,dv]=true)(hD:litPairs ks vs=some D)(ht:C0 D=some t)(h1:intKeyed D=true)(h2:(intKeysOf D).Nodup)(h3:ks.all (·.isSome)=true)(h4:ks.length=vs.length)(h5:ks.length<=15)(h6:ks≠ [])
  (h:TL W d cx ls H [k,dv] [.int i, .str y] H'):TE W d cx ls H (.Call (.Attribute (.Dict ks vs kp) "get" apos) [k,dv] [] pos) (.str ((t.lookup i).getD y)) H':=by
 intro A B ρ F env s hA hB hE hF hR;have hs:[k,dv].all cv=true:=by unfold e8 kY at hg;simp only[cw]at hg;exact hg.2.1
 show wpAny W.M A (eval (.Call (.Attribute (.Dict ks vs kp) "get" apos) [k,dv] [] pos) env) _ _ _
 erw [mj hg]
 refine aH (Dict_lits_int hD h1 h2 h3 h4 h6 h5 λa o i8 tk hlo ho hT hk=>aH (eh (aH (bX ?_))));refine aM (id hT) λkvs hi hf=>?_;refine gz (id hi) λes ep ex zz=>?_;have hfree:s.heap.get? a=none:=bQ hlo;have bY:RM W B ρ ((a,o)::F) H i8:=hR.allocF hfree hk ho;have hBa:B a=none:=by
  refine aM hR λrs S zz=>?_
  exact(S.free hfree).1
 refine getMethod_builtin (T:="dict") (s:={s with heap:=i8,toks:=tk}) (bI o ho ex.1) PySem.F.plainAttrs_dict PySem.F.slot_dict_get PySem.F.type_dict_get (λb e=>by cases e;exact bI o ho ex.2.1) ?_;refine fA hs ?_;refine dO (h pos A B ρ ((a,o)::F) env {s with heap:=i8,toks:=tk} hA hB hE (hF.sub λzz m=> .tail _ m) bY) (λus dR xq1=>fy xq1 λfZ d8 eE eJ fH gU=>⟨fU _,?_⟩) λzz zy e=>e;refine dY (jm gU) λu1 us1 eu1 q gU=>?_;refine dY (jm gU) λu2 us2 eu2 q' gU=>?_;obtain⟨t1,eq1⟩:=rI q;obtain⟨t2,eq2⟩:=my q'
 erw [eu1,eu2,vt gU,eq1,eq2]
 have Oj:dR.heap.get? a=some o:=eJ.frm (a,o) (.head _);have T:TabAt (PySem.intKind W.prog W.w) PyData.int dR.heap a D:=⟨Jw (F:=F) (h:=s.heap) Cl hB hBa,kvs,rH.mpr (bI o Oj hi),hf⟩;refine call_get2_intTab T (Flat.str _ _) λv hv=>?_;have e:(PySem.Spec.lookup (.int i) D).getD (.str (aO y))= .str (aO ((t.lookup i).getD y)):=by
  rw[xR ht]
  cases t.lookup i <;> rfl
 rw[e]at hv;obtain⟨t',e3⟩:=hv.str_inv
 erw [e3]
 refine PV.dropF (F1:= [(a,o)]) (d4 fZ d8 eE eJ (⟨fH.1,fH.2,fH.3⟩) .str)
def si{M:Model}{A:Around}{E:Value->Shared->Prop}{env:Env}{a b:Str}{k2 k3:Nat}{q2 q3 p:Pos}{Q:List Value->Shared->Prop}(h:Q [.str a s.toks, .str b (s.toks+1)] {s with toks:=s.toks+1+1}):
  wpAny M A (spliced (backTo p (fT [.Constant (.str a) k2 q2, .Constant (.str b) k3 q3] env))) Q E s:=by
 rw[dS (by rfl)];refine spliced_cons (x:=eval (.Constant (.str a) k2 q2) env) (wpAny_Constant_str ?_);show wpAny _ _ (spliced (backTo p (fT [.Constant (.str b) k3 q3] env))) _ _ _;rw[dS (by rfl)];exact spliced_cons (x:=eval (.Constant (.str b) k3 q3) env) (wpAny_Constant_str (spliced_nil h))
def CU{p:List Nat}{c2:Nat}{z1 z2:List Nat}(hv:Fi p v c1 z1 c2 z2=some w){q:Prop}
  (k:∀t,v= .str t->w= .str (p++dw c2 z2 (dw c1 z1 t))->cG t.length=true->cG (dw c1 z1 t).length=true->cG (p.length+(dw c2 z2 (dw c1 z1 t)).length)=true->z1.length<=14->z2.length<=14-> [c1]≠z1-> [c2]≠z2->q):q:=by
 cases v using AV.casesOn with
 | str t=>
  refine kE hv λh e=>?_;obtain⟨h,h7⟩:=ae.mp h;obtain⟨h,h6⟩:=ae.mp h;obtain⟨h,h5⟩:=ae.mp h;obtain⟨h,h4⟩:=ae.mp h;obtain⟨h,h3⟩:=ae.mp h;obtain⟨h1,h2⟩:=ae.mp h;exact k t rfl (af e).symm h1 h2 h3 (ab h4) (ab h5) (beq_eq_false_iff_ne.mp ((gM _).mp h6)) (beq_eq_false_iff_ne.mp ((gM _).mp h7))
 | _=>exact dA hv
def MD{p:Str}{r1 r2:Str}{y1 z1 y2 z2:Str}{c2:Nat}{k1 k2 k3 k4 k5:Nat}{q1 q2 q3 q4 q5 p1 p2 p3 p4 pos:Pos}(e1:r1="replace")(e2:r2="replace")(hp1:(p1.endLine==p2.line)=true)(hp3:(p3.endLine==p4.line)=true)(hx:iV x=true)(hy1:y1=aO [c1])(hy2:y2=aO [c2])
  (h:TE W d cx ls H x v H')(hv:Fi p.cps.toList v c1 z1.cps.toList c2 z2.cps.toList=some w):
  TE W d cx ls H (.BinOp (.Constant (.str p) k1 q1) .Add (.Call (.Attribute (.Call (.Attribute x r1 p1) [.Constant (.str y1) k2 q2, .Constant (.str z1) k3 q3] [] p2) r2 p3) [.Constant (.str y2) k4 q4, .Constant (.str z2) k5 q5] [] p4) pos) w H':=by
 refine CU hv λt ev ew c1' c2' c3' l4 l5 c6' c7'=>?_
 erw [e1,e2,hy1,hy2,ew]
 rw[ev]at h;clear hv ev ew hy1 hy2 e1 e2;intro A B ρ F env s hA hB hE hF hR;obtain⟨z1,rfl⟩:∃z,z1=aO z:=⟨_,(gZ z1).symm⟩;obtain⟨z2,rfl⟩:∃z,z2=aO z:=⟨_,(gZ z2).symm⟩;have l1:=fg c1';have l2:=fg c2';have ne1:(aO [c1]==aO z1)=false:=beq_eq_false_iff_ne.mpr λe=>c6' (sA e);have ne2:(aO [c2]==aO z2)=false:=beq_eq_false_iff_ne.mpr λe=>c7' (sA e);refine wpAny_BinOp (wpAny_Constant_str ?_);have g1:e8 x p1 p2 [.Constant (.str (aO [c1])) k2 q2, .Constant (.str (aO z1)) k3 q3]=true:=by unfold e8;erw [hx,hp1];rfl
 have g2:e8 (.Call (.Attribute x "replace" p1) [.Constant (.str (aO [c1])) k2 q2, .Constant (.str (aO z1)) k3 q3] [] p2) p3 p4 [.Constant (.str (aO [c2])) k4 q4, .Constant (.str (aO z2)) k5 q5]=true:=by unfold e8;erw [hp3];rfl
 erw [mj g2]
 refine aH ?_
 erw [mj g1]
 refine aH (wpAny_with_toks (n:=s.toks+1) (ay _) (dO (h A B ρ F env {s with toks:=s.toks+1} hA hB hE hF hR) (λu bA xq2 hT=>fy xq2 λb9 bu JI bY cf dZ=>aH (eh (aH (bX ?_)))) λzz zy e=>e.elim));obtain⟨tv,ev⟩:=my dZ
 erw [ev]
 refine GM.replace ?_;refine fA rfl ?_;refine si ⟨fU _,?_⟩;have hT1:bA.toks≠0:=Nat.ne_of_gt (ao (k9 _) hT);refine wpAny_with_toks (n:=bA.toks+1) (by simp) (SC.replaceW hT1 (by simp) (by simp) ne1 (by erw [cz];exact aj l1 (ab rfl)) (by erw [cz];exact l4) λt' k hk=>?_)
 erw [xt]
 refine aH (eh (aH (bX (GM.replace ?_))));refine fA rfl ?_;refine si ⟨fU _,?_⟩;have hT2:k≠0:=by intro e;subst e;exact absurd hk (by simp)
 refine SC.replaceW hT2 (by simp) (by simp) ne2 (by erw [cz];exact aj l2 (ab rfl)) (by erw [cz];exact l5) λt'' k'=>?_
 erw [xt]
 have hvp:VR W b9 bu (.str p.cps.toList) (.str p s.toks):=by
  have:=VR.str (W:=W) (B:=b9) (ρ:=bu) (s:=p.cps.toList) (t:=s.toks);rwa [gZ]at this
 have PH:RM W b9 bu F H' bA.heap:=bY;refine lA (uK (d:=d) (x:=p.cps.toList) (y:=dw c2 z2 (dw c1 z1 t)) c3' A b9 bu F _ _ _ hA (hB.mono JI.b) PH hvp .str) λu s' z=>?_;refine fy z λB' ρ' a b c e=>?_;exact d4 B' ρ' (JI.trans a) b (⟨c.1.trans cf.1,c.2.trans cf.2,c.3.trans cf.3⟩) e
def xY(h:j6 sp vs=some v):∃xs,gY vs=some xs/\cG (xs.foldr (λw n=>w.length+sp.length+n) 0)=true/\cG vs.length=true/\v= .str (oh sp xs):=by
 unfold j6 at h;cases hx:gY vs with
 | none=>rw[hx]at h;exact dA h
 | some xs=>
  rw[hx]at h
  try dsimp only at h
  cases hb:(cG (xs.foldr (λw n=>w.length+sp.length+n) 0) && cG vs.length)with
  | false=>rw[hb]at h;exact dA h
  | true=>rw[hb]at h;exact CH xs rfl ((ae.mp hb).1) ((ae.mp hb).2) ((af h).symm)
def HG{xs:List (List Nat)}(h:cG (xs.foldr (λw n=>w.length+sp.length+n) 0)=true):JoinOk (aO sp) (xs.map aO):=by
 unfold JoinOk
 erw [StrLaws.joinTotal,qL]
 have:=fg h;have e2:(2:Nat) ^ 24=16777216:=rfl;unfold Builtin.Str.tooLong lB
 erw [decide_eq_false (iA.mpr (aj this (ab rfl)))];rfl
def n6:∀a b:List (Str×Tok),fI a=fI b->a.map (·.1)=b.map (·.1)
 | [],[],_=>rfl
 | [],_::_,h=>nomatch h
 | _::_,[],h=>nomatch h
 | x::a,y::b,h=>by
  obtain⟨h1,h2⟩:=dC h
  erw [bp,bp,(AG.inj h1).1,n6 a b h2];rfl
def Cm{acc:List (Str×Tok)}{its:List Value}(h1:(fI acc).toArray.size=its.toArray.size)(h2:∀(j:Nat) (v:Value),(fI acc).toArray[j]? =some v->its.toArray[its.toArray.size-1-j]? =some v):fI acc=its.reverse:=by
 have h1:acc.length=its.length:=by erw [<- (show(fI acc).length=acc.length from aL ..)];exact h1
 apply List.ext_getElem?;intro j;by_cases hjj:j<its.length
 ·have hj2:j<(fI acc).length:=by erw [(show(fI acc).length=acc.length from aL ..)];exact(gn bh az [(bh,bH),(bH,az)] aS hjj (lz h1))
  have h3:=h2 j (fI acc)[j] (by erw [dI];exact bq hj2)
  erw [bq hj2,List.getElem?_reverse hjj]
  rw[dI]at h3;exact h3.symm
 ·erw [(ez (by erw [(show(fI acc).length=acc.length from aL ..)];exact(gn ai az [(ai,bH),(bH,az)] aS (pK h1) (iA.mp hjj)))),(ez (by erw [fS];exact iA.mp hjj))];rfl
def AH(W1:W.Top){o:Expr}{f:Str}{fp pos pos':Pos}{k:Nat}(hg:e8 o apos pos [.Call (.Name f fp) [x] [] pos']=true)(hx:cv x=true)(ho:Ej f=false)(hs:cx.scope.names.lookup f=some .globalImplicit)(hgl:Gl W f (.type "reversed"))
  (h:TE W d cx ls H o (.str sp) au)(h':TE W d cx ls au x (.ref k) H')(hk:aF H' k=some vs)(hj:j6 sp vs.reverse=some v):TE W d cx ls H (.Call (.Attribute o "join" apos) [.Call (.Name f fp) [x] [] pos'] [] pos) v H':=by
 intro A B ρ F env s hA hB hE hF hR;have hsl:=d0;show wpAny W.M A (eval (.Call (.Attribute o "join" apos) [.Call (.Name f fp) [x] [] pos'] [] pos) env) _ _ _
 erw [mj hg]
 refine aH (h.go hA hB hE hF hR λb9 bu u bA cj di cR bY cf dZ=>aH (eh (aH (bX ?_))));obtain⟨t,ev⟩:=my dZ
 erw [ev]
 refine GM.join ?_;refine fA rfl ?_;rw[dS (by rfl)];refine spliced_cons (x:=eval (.Call (.Name f fp) [x] [] pos') env) ?_;refine wpAny_Call_NameR (kD W1 hE (kQ ho).1 hgl hs (bY.base di) (fA (by erw [o5,hx];rfl) ?_));rw[dS hx];refine spliced_cons (h'.go hA di hE cR bY λfZ d8 u dR eE iJ jc eJ fH gU=>spliced_nil ⟨oR _,?_⟩);refine aM (mV gU) λl ev hl=>?_
 erw [ev]
 refine aM (eB eJ hk hl) λits p q=>?_;refine call_reversed_list p (spliced_nil ⟨fU _,?_⟩);have fr:dR.heap.get? dR.heap.objs.size=none:=bQ (ay _);have hne:l≠dR.heap.objs.size:=λe=>by
  refine aM p λo ho zz=>?_
  rw[e,fr]at ho;exact dA ho
 have k0:∀b o,dR.heap.get? b=some o->(dR.heap.push (revObj l ((its.toArray.size:Int)-1))).get? b=some o:=λb o e=>cH _ e;refine B4 (xY hj) λxs hxs hfit hroom e0=>?_
 erw [e0]
 rw[fS]at hroom;refine aM (qu _ _ _ hxs q.reverse) λlr hlr elr=>?_;have hlen:its.toArray.size=vs.length:=q.length;have hall:∀(i:Nat) (w:Value),its[i]? =some w->∃y u,w=AG y u:=λi w hw=>by
  have hm:w∈its.reverse:=List.mem_reverse.mpr (bN hw)
  rw[hlr]at hm
  refine aM (cN.mp hm) λpr zz e=>?_
  exact uj _ _ e.symm
 refine EK ((Walks.listRev (A:=A.in1.in1) hA.handled dR.heap.objs.size l hne its.toArray).toS) (λi s st=>st.2.1.typeIs) (eD (aY _) (⟨_,dE _ rfl,rfl,by simp[revObj]⟩) (aM p λo ho z=>⟨o,k0 _ _ ho,z⟩)) (λb hb=>?_) (.head _) (λi w hw=>hall _ w (by simpa using hw)) (hlen ▸zT hroom) λs' acc hm ha=>?_
 ·show b<(dR.heap.push (revObj l ((its.toArray.size:Int)-1))).objs.size
  erw [(show(dR.heap.push (revObj l ((its.toArray.size:Int)-1))).objs.size=dR.heap.objs.size+1 from Array.size_push ..)]
  rcases aR.mp hb with e | e
  ·erw [e];exact cJ _
  ·erw [fD.mp e];refine aM p λo ho zz=>?_;exact ow (Heap.lt_size ho)
 ·erw [n6 _ _ ((Cm ha.1 ha.2).trans hlr),elr]
  refine⟨HG hfit,λt' k=>?_⟩
  erw [(show Txt.join (aO sp) (xs.map aO)=aO (oh sp xs)from(StrLaws.glued_eq_join _ _).trans (tj sp xs))]
  refine d4 fZ d8 (cj.trans eE) (eJ.ext λb o e=>?_) ((cf.trans fH).trans ⟨hm.gens,hm.drawn,hm.os⟩) .str;exact hm.heap b o (λq=>by rw[fD.mp q,fr]at e;exact dA e) (k0 _ _ e)
end
end
end Mine.Internal
end
section
open PySem PySem.Calls PyProof.Rows PySem.W
namespace Mine.Internal
mutual
variable{α γ β δ:Type}{h:Heap}{F' rs fr:Raws}{B':BgT}{ρ':List Addr}{k':Nat}{p':Pos}{dvs:List Value}{ps:List Str}
def St.perm{B:BgT}{F:Raws}(p:F.Perm F')(S:St B F rs h):St B F' rs h:=
 ⟨S.keep,λx hx=>S.frm x (p.mem_iff.mpr hx),λx hx=>(eD ((S.got x hx).1) ((S.got x hx).2.1) (λq=>(S.got x hx).2.2 ((p.map _).mem_iff.mpr q))),S.nod,((p.map _).nodup_iff).mp S.nodF⟩
def RM.perm{W:Wd}{B:BgT}{ρ:List Addr}{F:Raws}{H:Hp}(p:F.Perm F')(R:RM W B ρ F H h):RM W B ρ F' H h:=aM R λrs S C=>⟨rs,S.perm p,C⟩
def RM.front{W:Wd}{B:BgT}{ρ:List Addr}{F:Raws}{x:Addr×Obj}{H:Hp}(R:RM W B ρ (x::(fr++F)) H h):RM W B ρ (fr++(x::F)) H h:=R.perm (lW.symm)
def RM.back{W:Wd}{B:BgT}{ρ:List Addr}{F:Raws}{x:Addr×Obj}{H:Hp}(R:RM W B ρ (fr++(x::F)) H h):RM W B ρ (x::(fr++F)) H h:=R.perm lW
def s7{F1 F2:Raws}{d:Addr}{o o':Obj}{p:Addr×Obj}(h:p∈F1++(d,o)::F2)(hne:p.1≠d):p∈F1++(d,o')::F2:=by
 rcases dz.mp h with q | q
 ·exact cU _ q
 ·rcases aR.mp q with rfl | q
  ·exact absurd rfl hne
  ·exact bC _ (.tail _ q)
end
section
mutual
variable{F fr:Raws}{env:Env}{s bA s':Shared}{i:Nat}{A:Around}{r:Flow}{av:AV}{x:Str}{b9:BgT}{bu:List Addr}{e o:Expr}{ls':Ls}{ks:List (List Nat×AV)}{kvs:List (Str×Value)}
variable{W:Wd}{d:Nat}{cx:CX}{ls:Ls}{H H' au aP dM:Hp}
def vN{j:Nat}{av':AV}(e:(ls.set i (some av))[j]? =some (some av')):(j=i/\av'=av)\/(j≠i/\ls[j]? =some (some av')):=by
 by_cases q:j=i
 ·subst q;rw[List.getElem?_set_self']at e;exact jZ e λzz zy e=> .inl ⟨rfl,(af e).symm⟩
 ·rw[mv (Ne.symm q)]at e;exact .inr ⟨q,e⟩
def uD{p p':Str->Option Value->Prop}(ok:CXOk W cx){B:BgT}{ρ:List Addr}{v:Value}(hi:cx.slots.lookup x=some i)(hv:VR W B ρ av v)(lo:∀y j,cx.slots.lookup y=some j->∃w,p y w/\∀av',ls[j]? =some (some av')->∃u,w=some u/\VR W B ρ av' u)
  (h1:p' x (some v))(h2:∀y w,y≠x->p y w->p' y w)(y:Str)(j:Nat)(hj:cx.slots.lookup y=some j):∃w,p' y w/\∀av',(ls.set i (some av))[j]? =some (some av')->∃u,w=some u/\VR W B ρ av' u:=by
 by_cases q:y=x
 ·subst q;exact bI (some v) h1 (λav' e=>(vN e).elim (λz=>⟨v,rfl,z.2 ▸hv⟩) λz=>absurd (af (hj.symm.trans hi)) z.1)
 ·exact(lo y j hj).elim λw z=>⟨w,h2 y w q z.1,λav' e=>(vN e).elim (λz=>absurd (ok.inj y x i (z.1 ▸hj) hi) q) λe=>z.2 av' e.2⟩
def ur.other{F':Raws}{m m':Str->Option Value}{y:Str}{w:Option Value}(l:ur F env m y w)(hm:m y=w->m' y=w)(hF:∀c o,env.cells.lookup y=some c->(c,o)∈F->o.data= .cell w->(c,o)∈F'):ur F' env m' y w:=
 l.imp (λl=>⟨l.1,hm l.2⟩) λl=>⟨l.1,l.2.elim λc z=>z.elim λo z=>(i7 c o z.1 (hF c o z.1 z.2.1 z.2.2) z.2.2)⟩
def j2.store(ok:CXOk W cx){B:BgT}{ρ:List Addr}{E:Value->Shared->Prop}{v:Value}{Q:Unit->Shared->Prop}
  (hE:EnvOk cx env)(hf:j2 W B ρ fr env cx ls)(hR:RM W B ρ (fr++F) H s.heap)(hi:cx.slots.lookup x=some i)(hv:VR W B ρ av v)
  (h:∀h' tk fr',j2 W B ρ fr' env cx (ls.set i (some av))->RM W B ρ (fr'++F) H h'->Q () {s with heap:=h',toks:=tk}):wpAny W.M A (storeName env x v) Q E s:=by
 refine uc hf λo m hL N inj nofree lo=>?_;refine aM hR λrs S C=>?_;have hkind:env.scope.kind= .function:=by erw [hE.scope];exact hE.kind
 have nsL:s.heap.Ns env.locals m:=S.ns (cU _ hL) N;refine dY N λes ep e1 e2 e3=>?_;have nc:∀{c:Addr} {oc:Obj} {w:Option Value},(c,oc)∈fr->oc.data= .cell w->c≠env.locals:=fun{c oc w} hm hd q=>by
  rw[q]at hm
  rw[S.uniq (cU _ hm) (cU _ hL),e1]at hd
  exact nomatch hd
 refine aM (lo x i hi) λw l zz=>?_;rcases l with⟨k,e⟩ | ⟨k,c,oc,hc,hm,hd⟩
 ·
  refine y5 (List.append_of_mem hL) λf1 f2 hfr=>?_;refine wpAny_storeName_local k nsL (λh' hn' hs'=>?_) (by erw [hkind];rfl);refine gT hn' λo' es' ep' g1 g2 g3 g4=>?_;have S':St B ((f1++(env.locals,o')::f2)++F) rs h':=by
   rw[hfr,aB,jl]at S
   erw [aB,jl];exact S.updF hs' g1
  exact h h' (s.toks+1) _ ⟨o',_,bC _ (.head _),(i7 es' ep' g2 g3 g4),inj,nofree,uD ok hi hv lo (.inl ⟨k,if_pos rfl⟩) λy w hy l=>
   l.other (λe=>(if_neg hy).trans e) λc oc zz hm hd=>s7 (hfr ▸hm) (nc hm hd)⟩ ⟨rs,S',C⟩
 ·
  have k:=k.resolve_right (nofree x);refine y5 (List.append_of_mem hm) λg1 g2 hfr=>?_;refine wpAny_storeName_cell hkind k hc (bI oc ((S.frm (c,oc) (cU _ hm)).1) hd) (λh' hn' hs'=>?_);refine aM hn' λo' p1 p2=>?_;have S':St B ((g1++(c,o')::g2)++F) rs h':=by
   rw[hfr,aB,jl]at S
   erw [aB,jl];exact S.updF hs' p1
  exact h h' s.toks _ ⟨o,m,s7 (hfr ▸hL) (nc hm hd).symm,(i7 es ep e1 e2 e3),inj,nofree,uD ok hi hv lo (.inr ⟨.inl k,c,o',hc,bC _ (.head _),p2⟩) λy w hy l=>
   l.other id λc' oc' hc' hm' zz=>s7 (hfr ▸hm') λq=>hy (inj y x c ((show c'=c from q) ▸hc') hc)⟩ ⟨rs,S',C⟩
abbrev PS(W:Wd)(B:BgT)(ρ:List Addr)(F:Raws)(s:Shared)(env:Env)(cx:CX)(ls:Ls)(H':Hp)(s':Shared):Prop:=
 ∃B' ρ' fr',Grow B ρ B' ρ'/\RM W B' ρ' (fr'++F) H' s'.heap/\Rest s s'/\j2 W B' ρ' fr' env cx ls
inductive FlR(W:Wd)(B:BgT)(ρ:List Addr):Fl->Flow->Prop
 | next:FlR W B ρ .next .next
 | cont:FlR W B ρ .cont .cont
 | ret {v:AV} {u:Value}:VR W B ρ v u->FlR W B ρ (.ret v) (.ret u)
abbrev TF(W:Wd)(B:BgT)(ρ:List Addr)(fl:Fl)(r:Flow):Prop:=Fl.casesOn (motive:=λzz=>Prop) fl (r= .next) (r= .cont) λv=> ∃u,r= .ret u/\VR W B ρ v u
def FlR.inv{W:Wd}{B:BgT}{ρ:List Addr}{fl:Fl}(h:FlR W B ρ fl r):TF W B ρ fl r:=FlR.casesOn (motive:=λfl r zz=>TF W B ρ fl r) h rfl rfl λz=>(bI _ rfl z)
@[elab_as_elim] theorem FlR.isNext{W:Wd}{B:BgT}{ρ:List Addr}{P:Flow->Prop}(h:FlR W B ρ .next r)(k:P .next):P r:=(show r= .next from h.inv) ▸k
@[elab_as_elim] theorem FlR.isRet{W:Wd}{B:BgT}{ρ:List Addr}{v:AV}{P:Flow->Prop}(h:FlR W B ρ (.ret v) r)(k:∀u,VR W B ρ v u->P (.ret u)):P r:=aM (h.inv) λu e z=>e ▸k u z
@[elab_as_elim] theorem FlR.on{W:Wd}{B:BgT}{ρ:List Addr}{f:Fl}{P:Flow->Prop}(h:FlR W B ρ f r)(q:f= .next\/f= .cont)(a:P .next)(b:P .cont):P r:=by
 cases f using Fl.casesOn with
 | next=>exact h.isNext a
 | cont=>exact(show r= .cont from h.inv) ▸b
 | _=>cases q using cW with
  | inl q=>exact nomatch q
  | inr q=>exact nomatch q
abbrev PF(W:Wd)(B:BgT)(ρ:List Addr)(F:Raws)(s:Shared)(env:Env)(cx:CX)(fl:Fl)(ls:Ls)(H':Hp)(r:Flow)(s':Shared):Prop:=
 ∃B' ρ' fr',Grow B ρ B' ρ'/\RM W B' ρ' (fr'++F) H' s'.heap/\Rest s s'/\j2 W B' ρ' fr' env cx ls/\FlR W B' ρ' fl r
def PS.glue{B:BgT}{ρ:List Addr}(g:Grow B ρ b9 bu)(r:Rest s bA)(h:PS W b9 bu F bA env cx ls H' s'):PS W B ρ F s env cx ls H' s':=
 gT h λB' ρ' fr' a b c e=>⟨B',ρ',fr',g.trans a,b,r.trans c,e⟩
def PF.glue{B:BgT}{ρ:List Addr}{fl:Fl}{fw:Flow}(g:Grow B ρ b9 bu)(r:Rest s bA)(h:PF W b9 bu F bA env cx fl ls H' fw s'):PF W B ρ F s env cx fl ls H' fw s':=
 gT h λB' ρ' fr' a b c e=>⟨B',ρ',fr',g.trans a,b,r.trans c,e⟩
abbrev TA(W:Wd)(d:Nat)(cx:CX)(ls:Ls)(H:Hp)(t:Expr)(v:AV)(ls':Ls)(H':Hp):Prop:=
 ∀(A:Around) (B:BgT) (ρ:List Addr) (fr F:Raws) (env:Env) (s:Shared) (u:Value),AOk A d->gw W B->EnvOk cx env->j2 W B ρ fr env cx ls->RM W B ρ (fr++F) H s.heap->VR W B ρ v u->
  wpAny W.M A (assign t env u) (λzz s'=>PS W B ρ F s env cx ls' H' s') fh s
abbrev Tv(W:Wd)(d:Nat)(cx:CX)(ls:Ls)(H:Hp)(t:Env->Sem Flow)(fl:Fl)(ls':Ls)(H':Hp):Prop:=
 ∀(A:Around) (B:BgT) (ρ:List Addr) (fr F:Raws) (env:Env) (s:Shared),AOk A d->gw W B->EnvOk cx env->j2 W B ρ fr env cx ls->RM W B ρ (fr++F) H s.heap->
  wpAny W.M A (t env) (λr s'=>PF W B ρ F s env cx fl ls' H' r s') fh s
noncomputable abbrev TS(W:Wd)(d:Nat)(cx:CX)(ls:Ls)(H:Hp)(st:Stmt)(fl:Fl)(ls':Ls)(H':Hp):Prop:=Tv W d cx ls H (exec st) fl ls' H'
noncomputable abbrev vm(W:Wd)(d:Nat)(cx:CX)(ls:Ls)(H:Hp)(st:List Stmt)(fl:Fl)(ls':Ls)(H':Hp):Prop:=Tv W d cx ls H (execs st) fl ls' H'
def TE.goS{v:AV}(h:TE W d cx ls H e v H'){B:BgT}{ρ:List Addr}{Q:Value->Shared->Prop}(hA:AOk A d)(hB:gw W B)(hE:EnvOk cx env)(hF:j2 W B ρ fr env cx ls)(hR:RM W B ρ (fr++F) H s.heap)
  (k:∀B' ρ' u s',Grow B ρ B' ρ'->gw W B'->j2 W B' ρ' fr env cx ls->RM W B' ρ' (fr++F) H' s'.heap->Rest s s'->VR W B' ρ' v u->Q u s'):wpAny W.M A (eval e env) Q fh s:=
 TE.go h hA hB hE hF.frm hR λB' ρ' u s' g b zz R r z=>k B' ρ' u s' g b (hF.mono g) R r z
def TB.goS{b:Bool}(h:TB W d cx ls H e b H'){B:BgT}{ρ:List Addr}{Q:Bool->Shared->Prop}(hA:AOk A d)(hB:gw W B)(hE:EnvOk cx env)(hF:j2 W B ρ fr env cx ls)(hR:RM W B ρ (fr++F) H s.heap)
  (k:∀B' ρ' s',Grow B ρ B' ρ'->gw W B'->j2 W B' ρ' fr env cx ls->RM W B' ρ' (fr++F) H' s'.heap->Rest s s'->Q b s'):wpAny W.M A (isTrue e env (eval e env)) Q fh s:=
 TB.go h hA hB hE hF.frm hR λB' ρ' s' g b zz R r=>k B' ρ' s' g b (hF.mono g) R r
def ju{v:AV}(h:jh ls i v=some ls'):ls'=ls.set i (some v):=by
 unfold jh at h
 split at h
 ·exact(af h).symm
 ·cases h
def wI(ok:CXOk W cx){pos:Pos}{v:AV}(hx:cx.slot x=some i)(h:jh ls i v=some ls'):TA W d cx ls H (.Name x pos) v ls' H:=by
 intro A B ρ fr F env s u hA hB hE hF hR hv
 erw [ju h]
 exact wpAny_assign_Name (hF.store ok hE hR (jt hx).2 hv λh' tk fr' f R=>(pS B ρ fr' (.refl B ρ) R (⟨rfl,rfl,rfl⟩) f))
def I8(W1:W.Top)(Cl:W.Cl){n:Str}{pos:Pos}{x v:AV}{f:Nat}(hn:W.nm[f]? =some n)(h:TE W d cx ls H o x au)(ha:l6 W.P au x f v=some H'):TA W d cx ls H (.Attribute o n pos) v ls H':=by
 intro A B ρ fr F env s u hA hB hE hF hR hv
 erw [arm_assign_Attribute]
 refine aH (bX (h.goS hA hB hE hF hR λb9 bu ov bA cj di cR bY cf dZ=>aH (eh (aH (bX ?_)))));refine lA (zP W1 Cl hn ha hA di bY dZ (hv.mono cj)) λzz s' xq1=>dY xq1 λfZ d8 eE eJ fH=>wpAny_release (pS fZ d8 fr (cj.trans eE) eJ (cf.trans fH) (cR.mono eE))
def DEnt.nodupSet{B:BgT}{ρ:List Addr}{x:List Nat}{v:AV}{u:Value}(hv:VR W B ρ v u)(r:DEnt W B ρ ks kvs):(kvs.map (·.1)).Nodup->DEnt W B ρ (nV x v ks) (stored kvs (aO x) u):=by
 induction r with
 | nil=>exact λzz=> .cons hv .nil
 | @cons k _ w _ es hw r ih=>
  intro hn;rw[bp,bS]at hn;unfold nV;by_cases e:k=x
  ·subst e
   erw [if_pos rfl]
   have e2:es.map (λkv=>if kv.1=aO k then(kv.1,u)else kv)=es:=by
    conv=>rhs;rw[<- List.map_id es]
    refine List.map_congr_left λa ha=>?_
    have:a.1≠aO k:=λq=>hn.1 (by erw [<- q];exact cN.mpr (bI a ha rfl))
    erw [if_neg this];rfl
   have:stored ((aO k,w)::es) (aO k) u=(aO k,u)::es:=by
    unfold stored
    erw [(if_pos (by simp)),bp,e2];simp
   erw [this]
   exact .cons hv r
  ·erw [if_neg e]
   have e':¬ (aO k=aO x):=λq=>e (by have:=congrArg (λw:Str=>w.cps.toList) q;exact this);have:stored ((aO k,w)::es) (aO x) u=(aO k,w)::stored es (aO x) u:=by
    unfold stored
    have:((aO k,w)::es).any (λkv=>decide (kv.1=aO x))=es.any (λkv=>decide (kv.1=aO x)):=by
     erw [oZ,decide_eq_false e',Bool.false_or];rfl
    erw [this]
    split
    ·erw [bp,if_neg e'];rfl
    ·rfl
   erw [this]
   exact .cons hw (ih hn.2)
def DEnt.len{B:BgT}{ρ:List Addr}(r:DEnt W B ρ ks kvs):kvs.length=ks.length:=
 DEnt.rec (motive:=λks kvs zz=>kvs.length=ks.length) rfl (λzz zy ih=>congrArg (· +1) ih) r
def zO{x i v:AV}(h:mY H x i v=some H'){B:BgT}{ρ:List Addr}{u w y:Value}(hR:RM W B ρ F H s.heap)(hx:VR W B ρ x u)(hi:VR W B ρ i w)(hy:VR W B ρ v y):
  wpAny W.M A (setItem u w y) (PU W B ρ F s H') fh s:=zG h hx λk a ha h=>je h λc hc h=>by
 cases c using Cell.casesOn with
 | list vs=>
  refine mS (show fL i _=some H' from h) hi λz t h=>Lk h λj h=>kE h λhb h=>?_;refine fy (hR.listA ha hc) λits n e2 e3 e4 e5=>?_;obtain⟨h1,h2⟩:=ae.mp hb;have h1:=cM.mp h1;have hl:its.toArray.size=vs.length:=e3.length
  erw [<- af h]
  refine ki_setAt e2 (fE j) (Int.lt_trans (fX.mpr h1) (Ez h2)) (by erw [hl];exact fX.mpr h1) ?_;refine i7 B ρ (.refl B ρ) (e5 _ _ _ (if(its.toArray.setIfInBounds j y).size==its.toArray.size then n else n+1) (uv ..) ?_ (e3.set j hy)) (⟨rfl,rfl,rfl⟩)
  erw [rS _ e2 rfl]
  simp[Obj.mapSeq,PySem.W.listOf]
 | dict es=>
  refine sx (show iq i _=some H' from h) hi λj t h=>kE h λhb h=>?_;refine uc (hR.dictA ha hc) λo kvs e2 e3 e4 e5 e6=>?_
  erw [<- af h]
  refine wpAny_setItem_pairs (knd:=PySem.strKind W.prog W.w) (k:=aO j) (beq_self_eq_true _) (rH.mpr (bI o e2 e3)) (hsz:=by erw [e4.len];exact zT hb) λh' hm hs=>?_;refine aM (rH.mp hm) λo' ho' hi'=>?_;refine uc e3 λzz zy zx zw zv zu hn=>?_;exact i7 B ρ (.refl B ρ) (e6 _ _ _ _ hs ho' hi' (e4.nodupSet hy hn)) (⟨rfl,rfl,rfl⟩)
 | n zz zy=>exact dA h
def MK{i:Expr}{pos:Pos}{x y v:AV}(h:TE W d cx ls H o x au)(h':TE W d cx ls au i y aP)(ha:mY aP x y v=some H'):TA W d cx ls H (.Subscript o i pos) v ls H':=by
 intro A B ρ fr F env s u hA hB hE hF hR hv
 erw [arm_assign_Subscript]
 refine aH (bX (h.goS hA hB hE hF hR λb9 bu ov bA cj di cR bY cf dZ=>aH (bX (h'.goS hA di hE cR bY λfZ d8 iv dR eE iJ jc eJ fH gU=>aH (eh (aH (bX ?_)))))));refine lA (zO ha eJ (dZ.mono eE) gU ((hv.mono cj).mono eE)) λzz s' xq2=>dY xq2 λnZ j4 iy jH lC=>wpAny_release (pS nZ j4 fr ((cj.trans eE).trans iy) jH ((cf.trans fH).trans lC) (jc.mono iy))
end
end
section
mutual
variable{W:Wd}{B:BgT}{ρ:List Addr}{F:Raws}{H:Hp}{h h':Heap}{I:Addr}{o o':Obj}
def St.shed{rs:Raws}(S:St B ((I,o)::F) rs h)(k:∀b x,b≠I->h.get? b=some x->h'.get? b=some x):St B F rs h':=by
 have hI:=S.frm (I,o) (.head _);have nd:=bS.mp S.nodF;refine⟨λb x e=>k b x (λq=>?_) (S.keep b x e),λp hp=>⟨k _ _ (λq=>nd.1 (qH hp q)) (S.frm p (.tail _ hp)).1,(S.frm p (.tail _ hp)).2⟩,λp hp=>?_,S.nod,nd.2⟩
 ·rw[q,hI.2]at e;exact dA e
 ·have:=S.got p hp;rw[bp,aR,not_or]at this;exact eD (k _ _ this.2.2.1 this.1) this.2.1 this.2.2.2
def RM.shed(R:RM W B ρ ((I,o)::F) H h)(k:∀b x,b≠I->h.get? b=some x->h'.get? b=some x):RM W B ρ F H h':=aM R λrs S C=>⟨rs,S.shed k,C⟩
def RM.turn(R:RM W B ρ ((I,o)::F) H h)(k:fe I h h')(e:h'.get? I=some o'):RM W B ρ ((I,o')::F) H h':=aM R λrs S C=>⟨rs,S.updF (F1:= []) k e,C⟩
def RM.at(R:RM W B ρ ((I,o)::F) H h):h.get? I=some o:=R.frm (I,o) (.head _)
end
end
mutual
inductive It1(W:Wd)(B:BgT)(ρ:List Addr):It->Obj->Prop
 | str {x:List Nat} {t:Tok} {i:Nat} {s:List Nat} {o:Obj}:s=x.drop i->o.cls= .type (eY (aO x))->o.data= .fields #[.str (aO x) t, .int i 0]->It1 W B ρ (.str s) o
 | U {a:Addr} {ot o:Obj} {its:List Value} {vs ws:List AV} {i:Nat}:B a=some ot->tn ot its->VRs W B ρ vs its->ws=vs.drop i->o.cls= .type "tuple_iterator"->o.data= .fields #[.ref a, .int i 0]->It1 W B ρ (.vals ws) o
 | a {a:Addr} {ot o:Obj} {its:List Value} {vs ws:List AV} {i:Nat}:B a=some ot->pO ot its->VRs W B ρ vs its->ws=vs.drop i->o.cls= .type "list_iterator"->o.data= .fields #[.ref a, .int i 0]->It1 W B ρ (.vals ws) o
 | rng {x c:Int} {n:Nat}:It1 W B ρ (.rng x c n) {cls:= .type "range_iterator",data:= .fields #[rawInt x,rawInt (n:Int),rawInt c]}
 | cell {k i:Nat} {a:Addr} {o:Obj}:ρ[k]? =some a->o.cls= .type "list_iterator"->o.data= .fields #[.ref a, .int i 0]->It1 W B ρ (.cell k i) o
def It1.mono{W:Wd}{B:BgT}{ρ:List Addr}(g:Grow B ρ B' ρ'){it:It}{o:Obj}(h:It1 W B ρ it o):It1 W B' ρ' it o:=
 It1.casesOn (motive:=λit o zz=>It1 W B' ρ' it o) h .str (λa b c d e f=> .U (g.b _ _ a) b (c.mono g) d e f) (λa b c d e f=> .a (g.b _ _ a) b (c.mono g) d e f) .rng λa b c=> .cell (g.at a) b c
end
section
mutual
variable{A:Around}{s:Shared}{i:Nat}{I:Addr}{Q:Option Value->Shared->Prop}{it:It}{F:Raws}{α:Type}{x:List Nat}{t:Tok}
variable{W:Wd}{d:Nat}{H:Hp}{B:BgT}{ρ:List Addr}
def vT{x:AV}(h:gC H x=some it){u:Value}(hA:AOk A d)(hR:RM W B ρ F H s.heap)(hx:VR W B ρ x u){Q:Value->Shared->Prop}
  (k:∀I o h',It1 W B ρ it o->RM W B ρ ((I,o)::F) H h'->Q (.ref I) {s with heap:=h'}):wpAny W.M A (pyIter u) Q fh s:=by
 have new:∀(o:Obj),o.isFreed=false->It1 W B ρ it o->Q (.ref s.heap.objs.size) {s with heap:=s.heap.push o}:=λo hf hi=>
  k _ o _ hi (hR.allocF (bQ (ay _)) (λzz zy e=>cH _ e) (dE _ hf))
 cases x using AV.casesOn with
 | str w=>obtain⟨t,e⟩:=my hx;erw [e];rw[<- af h]at new;exact wpAny_pyIter_strU (new _ rfl (.str (i:=0) rfl rfl rfl))
 | U vs=>
  refine gT (Dx hx) λa o its e e1 e2 e3=>?_
  erw [e];rw[<- af h]at new
  exact wpAny_pyIter_tuple (eH _ (hR.keep _ _ e1) e2.1 e2.2) (new _ rfl (.U (i:=0) e1 e2 e3 rfl rfl rfl))
 | a vs=>
  refine gT (se hx) λa o its e e1 e2 e3=>?_
  erw [e];rw[<- af h]at new
  exact wpAny_pyIter_list (eH _ (hR.keep _ _ e1) e2.1 e2.2) (new _ rfl (.a (i:=0) e1 e2 e3 rfl rfl rfl))
 | rng a b c=>
  obtain⟨l,o,e,e1,t,u,w,e2⟩:=Nm hx;rw[e2]at e1;refine kE h λhs h=>?_
  erw [e];rw[<- af h]at new
  refine wpAny_pyIter_range (hR.keep _ _ e1) hs ?_
  erw [(show eO a b c=((hO a b c:Nat):Int)from(bV (jv a b c)).symm)]
  exact new _ rfl .rng
 | ref k=>
  refine aM (mV hx) λa e ha=>?_;refine jZ h λvs hv e2=>?_
  erw [e];rw[<- e2]at new
  refine aM (eB hR hv ha) λits p q=>?_;exact wpAny_pyIter_list p (new _ rfl (.cell (i:=0) ha rfl rfl))
 | _=>exact dA h
def k8{l:List α}{c:α}{r:List α}(h:c::r=l.drop i):l[i]? =some c/\r=l.drop (i+1):=by
 have h1:(l.drop i)[0]? =some c:=by erw [<- h];rfl
 refine⟨by simpa using h1,?_⟩;have:r=(l.drop i).tail:=by erw [<- h];rfl
 erw [this,List.tail_drop];rfl
def nQ{l:List α}(h:([]:List α)=l.drop i):l[i]? =none:=by
 have h1:(l.drop i)[0]? =none:=by erw [<- h];rfl
 simpa using h1
def DH{c:Nat}{E:Value->Shared->Prop}(hit:s.heap.IsStrIter I (eY (aO x)) (aO x) t i)(hc:x[i]? =some c)
  (hQ:∀h',h'.IsStrIter I (eY (aO x)) (aO x) t (i+1)->fe I s.heap h'->Q (some (.str ⟨#[c]⟩ s.toks)) {s with heap:=h',toks:=s.toks+1}):wpAny W.M A (pyNext (.ref I)) Q E s:=by
 have hc':(aO x).cps[i]? =some c:=by simpa [aO]using hc
 unfold eY at hit hQ;cases ha:(aO x).cps.all (· <128)
 ·rw[ha]at hit hQ;exact wpAny_pyNext_wide_item hit hc' hQ
 ·rw[ha]at hit hQ;exact wpAny_pyNext_ascii_item hit hc' hQ
def GK{E:Value->Shared->Prop}(hh:A.handled=none)(hit:s.heap.IsStrIter I (eY (aO x)) (aO x) t i)(hc:x[i]? =none)
  (hQ:∀h',Heap.ExtBut I s.heap h'->Q none {s with heap:=h'}):wpAny W.M A (pyNext (.ref I)) Q E s:=by
 have hc':(aO x).cps[i]? =none:=by simpa [aO]using hc
 unfold eY at hit;cases ha:(aO x).cps.all (· <128)
 ·rw[ha]at hit;exact wpAny_pyNext_wide_end hh hit hc' hQ
 ·rw[ha]at hit;exact wpAny_pyNext_ascii_end hh hit hc' hQ
abbrev NK(W:Wd)(B:BgT)(ρ:List Addr)(F:Raws)(H:Hp)(I:Addr)(Q:Option Value->Shared->Prop)(s:Shared)(r:Option (AV×It)):Prop:=
 bf (motive:=λzz=>Prop) r (∀h',RM W B ρ F H h'->Q none {s with heap:=h'}) λp=> ∀o' h' tk u,It1 W B ρ p.2 o'->RM W B ρ ((I,o')::F) H h'->VR W B ρ p.1 u->Q (some u) {s with heap:=h',toks:=tk}
set_option tactic.hygienic true in
theorem nL{r:Option (AV×It)}(h:it.next H=some r){o:Obj}(hh:A.handled=none)(hi:It1 W B ρ it o)(hR:RM W B ρ ((I,o)::F) H s.heap)
  (k:NK W B ρ F H I Q s r):wpAny W.M A (pyNext (.ref I)) Q fh s:=by
 have fin:NK W B ρ F H I Q s none->∀h',Heap.ExtBut I s.heap h'->Q none {s with heap:=h'}:=λk h' e=>k h' (hR.shed λb x hb z=>e b x hb z);have go:∀{p h' o' tk u},NK W B ρ F H I Q s (some p)->It1 W B ρ p.2 o'->fe I s.heap h'->h'.get? I=some o'->VR W B ρ p.1 u->Q (some u) {s with heap:=h',toks:=tk}:=λk i z g v=>k _ _ _ _ i (hR.turn z g) v;have hk:=hR.keep;have hl:∀{j a vs},aF H j=some vs->ρ[j]? =some a->∃its,s.heap.IsList a its.toArray/\VRs W B ρ vs its:=λe ha=>eB hR e ha;have ho:=hR.at;clear hR;revert h ho
 cases hi using It1.casesOn with
 | str hs hc hd=>
  rename_i l _
  cases l using aw with
  | nil=>exact λh ho=>GK hh (eH _ ho hc hd) (nQ hs) (fin (Gk (G:=NK W B ρ F H I Q s) h k))
  | cons c l=>exact λh ho=>DH (eH _ ho hc hd) (k8 hs).1 λh' xq1 z=>dt xq1 λo' g1 g2 g3=>go (Gk (G:=NK W B ρ F H I Q s) h k) (.str (k8 hs).2 g2 g3) z g1 .str
 | U e1 e2 e3 e4 e5 e6=>
  rename_i ws _
  have ht:=hk _ _ e1
  cases ws using aw with
  | nil=>exact λh ho=>wpAny_pyNext_tuple_end hh (eH _ ho e5 e6) ⟨_,ht,e2.1,e2.2⟩ (e3.getN (nQ e4)) (fin (Gk (G:=NK W B ρ F H I Q s) h k))
  | cons v ws=>exact λh ho=>aM (e3.getA (k8 e4).1) λ_ hu hv=>
   wpAny_pyNext_tuple_item (eH _ ho e5 e6) ⟨_,ht,e2.1,e2.2⟩ hu λh' xq2 z=>dt xq2 λo' g1 g2 g3=>go (Gk (G:=NK W B ρ F H I Q s) h k) (.U e1 e2 e3 (k8 e4).2 g2 g3) z g1 hv
 | a e1 e2 e3 e4 e5 e6=>
  rename_i ws _
  have ht:=hk _ _ e1
  cases ws using aw with
  | nil=>exact λh ho=>wpAny_pyNext_list_end hh (eH _ ho e5 e6) ⟨_,ht,e2.1,e2.2⟩ (e3.getN (nQ e4)) (fin (Gk (G:=NK W B ρ F H I Q s) h k))
  | cons v ws=>exact λh ho=>aM (e3.getA (k8 e4).1) λ_ hu hv=>
   wpAny_pyNext_list_item (eH _ ho e5 e6) ⟨_,ht,e2.1,e2.2⟩ hu λh' xq3 z=>dt xq3 λo' g1 g2 g3=>go (Gk (G:=NK W B ρ F H I Q s) h k) (.a e1 e2 e3 (k8 e4).2 g2 g3) z g1 hv
 | rng=>
  rename_i x c n
  cases n using bM with
  | zero=>exact λh ho=>wpAny_pyNext_range_end hh ho (Int.le_refl 0) (fin (Gk (G:=NK W B ρ F H I Q s) h k))
  | succ n=>exact λh ho=>wpAny_pyNext_range_item ho (Int.natCast_pos.mpr (k9 n)) λh' g z=>go (Gk (G:=NK W B ρ F H I Q s) h k) .rng z (show h'.get? I=_ from(Int.add_sub_cancel (n:Int) 1) ▸g) .int
 | cell e1 e5 e6=>
  rename_i j i a _
  refine λh ho=>jZ h λvs hv e=>?_;refine aM (hl hv e1) λits p q=>?_;rw[<- e]at k;generalize hg:vs[i]? =y at k
  cases y using bf with
  | none=>exact wpAny_pyNext_list_end hh (eH _ ho e5 e6) p (q.getN hg) (fin k)
  | some v=>
   refine aM (q.getA hg) λu hu hvr=>?_;exact wpAny_pyNext_list_item (eH _ ho e5 e6) p hu λh' xq4 z=>dt xq4 λo' g1 g2 g3=>go k (.cell e1 g2 g3) z g1 hvr
end
end
mutual
abbrev drawn(H:Hp):Nat->It->Option (List AV×It)
 | 0,it=>some ([],it)
 | n+1,it=>match it.next H with
  | some (some (v,it'))=>(drawn H n it').map fun(vs,e)=>(v::vs,e)
  | _=>none
def tL(H:Hp):∀vs:List AV,drawn H vs.length (.vals vs)=some (vs, .vals [])
 | []=>rfl
 | v::r=>by
  show(drawn H r.length (.vals r)).map _=_
  erw [tL H r];rfl
def tM{H:Hp}{k:Nat}{xs:List AV}(hk:aF H k=some xs):∀(n i:Nat),i+n=xs.length->drawn H n (.cell k i)=some (xs.drop i, .cell k xs.length)
 | 0,i,e=>by
  have:i=xs.length:=by omega
  subst this;simp[drawn]
 | n+1,i,e=>by
  have hlt:i<xs.length:=by exact(gn bh az [(aK ai mc,az)] aS (pK e))
  unfold drawn;have:It.next H (.cell k i)=some (some (xs[i], .cell k (i+1))):=by
   simp only[It.next,hk,Option.map_some,bq hlt]
  erw [this]
  try dsimp only
  erw [(tM hk n (i+1) (by exact(bJ (gn (aK bh az) bH [(aK ai cO,bH)] aS (pK e)) (gn ai (aK cO bH) [(ai,aK az mc)] aS (lz e)))))]
  erw [List.drop_eq_getElem_cons hlt];rfl
end
section
mutual
variable{vs:List AV}{ts:List Expr}{x:AV}{t:Expr}{ls':Ls}
variable{W:Wd}{d:Nat}{cx:CX}{ls:Ls}{H H' au aP dM:Hp}{B:BgT}{ρ:List Addr}
set_option tactic.hygienic true in
theorem Bm:∀(n:Nat) {it it':It} {vs:List AV} {A:Around} {F:Raws} {s:Shared} {I:Addr} {o:Obj} {Q:List Value->Shared->Prop},drawn H n it=some (vs,it')->A.handled=none->It1 W B ρ it o->RM W B ρ ((I,o)::F) H s.heap->
  (∀us o' h' tk,It1 W B ρ it' o'->RM W B ρ ((I,o')::F) H h'->VRs W B ρ vs us->Q us {s with heap:=h',toks:=tk})->wpAny W.M A (draw (.ref I) n) Q fh s
 | 0,it,it',vs,A,F,s,I,o,Q,h,hh,hi,hR,k=>by
  cases h
  show wpAny _ _ (pure []) Q fh s;exact bK (k [] o s.heap s.toks hi hR .nil)
 | n+1,it,it',vs,A,F,s,I,o,Q,h,hh,hi,hR,k=>by
  unfold drawn at h
  split at h
  ·rename_i v Si hn
   refine aM (bL.mp h) λxq1 h1 h2=>?_;obtain⟨ws,e⟩:=xq1;cases h2
   show wpAny _ _ (pyNext (.ref I) >>=_) Q fh s;refine aH (nL hn hh hi hR λo' h' tk u i' R' hv=>?_);refine aH (bX (Bm n (s:={s with heap:=h',toks:=tk}) h1 hh i' R' λus o'' h'' tk' i'' R'' hus=>bK ?_));exact k _ o'' h'' tk' i'' R'' (.cons hv hus)
  ·cases h
set_option tactic.hygienic true in
theorem qG(hx:(∃ws,x= .U ws/\ws=vs)\/∃k,x= .ref k/\aF H k=some vs){A:Around}{F:Raws}{s:Shared}{u:Value}(hA:AOk A d)(hR:RM W B ρ F H s.heap)(hv:VR W B ρ x u){Q:List Value->Shared->Prop}
  (k:∀us h' tk,RM W B ρ F H h'->VRs W B ρ vs us->Q us {s with heap:=h',toks:=tk}):wpAny W.M A (unpackItems u vs.length none) Q fh s:=by
 have main:∀{it it':It},gC H x=some it->drawn H vs.length it=some (vs,it')->it'.next H=some none->wpAny W.M A (notIterableAtAll u) (λb s'=>b=false/\s'=s) fh s->wpAny W.M A (unpackItems u vs.length none) Q fh s:=by
  intro it it' h1 h2 h3 h4
  unfold unpackItems
  refine aH (dO h4 (λb s' xq2=>Nh xq2 λe1 e2=>?_) λ_ _ e=>e)
  subst e1 e2
  simp only[fF,if_false]
  refine aH (bX (vT h1 hA hR hv λI o h' hi R=>?_))
  refine aH (bX (Bm vs.length h2 hA.handled hi R λus o' h'' tk hi' R' hus=>?_))
  have hl:=hus.length
  erw [(if_neg (by exact(λzz=>(CM [(bh,az),(az,ai)] aS zz (lz hl)))))]
  refine aH (bX (nL h3 hA.handled hi' R' λHT jH=>?_))
  simp only[Option.isSome_none,fF,if_false]
  exact bK (k us HT tk jH hus)
 rcases hx with⟨ws,rfl,rfl⟩ | ⟨j,rfl,hk⟩
 ·refine main rfl (tL H ws) rfl ?_;cases hv with
  | U e1 e2 e3=>
   unfold notIterableAtAll;exact aH (wpAny_specialOf (bI _ (hR.keep _ _ e1) e2.1) PySem.F.slot_tuple_iter.lookup (bK ⟨rfl,rfl⟩))
 ·refine main (it:= .cell j 0) (by show(aF H j).map _=_;erw [hk];rfl) (by erw [(tM hk _ 0 (by exact dq ..)),nG];rfl) ?_ ?_
  ·show(aF H j).map _=_
   erw [hk];simp
  ·cases hv
   rename_i ha
   refine aM (eB hR hk ha) λits xq3 q=>?_;refine dt xq3 λo ho hc _=>?_;unfold notIterableAtAll;exact aH (wpAny_specialOf (bI o ho hc) PySem.F.slot_list_iter.lookup (bK ⟨rfl,rfl⟩))
def iO(h:cv t=true)(ts:List Expr)(env:Env):jE (t::ts) env=(false,assign t env)::jE ts env:=by
 induction t using bE <;> first | rfl | cases h
def nB(h:ts.all cv=true)(env:Env):(jE ts env).length=ts.length/\(jE ts env).findIdx? (·.1)=none:=by
 induction ts with
 | nil=>exact⟨rfl,rfl⟩
 | cons t ts ih=>
  simp only[o5,cw]at h;have:=ih h.2;rw[iO h.1];refine⟨by erw [aJ,aJ,this.1];rfl,?_⟩
  erw [List.findIdx?_cons]
  simp[this.2]
abbrev J3(W:Wd)(d:Nat)(cx:CX)(ls:Ls)(H:Hp)(ts:List Expr)(vs:List AV)(ls':Ls)(H':Hp):Prop:=
 ∀(A:Around) (B:BgT) (ρ:List Addr) (fr F:Raws) (env:Env) (s:Shared) (us:List Value),AOk A d->gw W B->EnvOk cx env->j2 W B ρ fr env cx ls->RM W B ρ (fr++F) H s.heap->VRs W B ρ vs us->
  wpAny W.M A (gE ((jE ts env).map (·.2)) us) (λzz s'=>PS W B ρ F s env cx ls' H' s') fh s
def BY:J3 W d cx ls H [] [] ls H:=λA B ρ fr F env s us hA hB hE hF hR hv=>by
 cases hv
 exact bK (pS B ρ fr (.refl B ρ) hR (.refl s) hF)
def yQ{v:AV}{bB:Ls}(ht:cv t=true)(h:TA W d cx ls H t v bB au)(h':J3 W d cx bB au ts vs ls' H'):J3 W d cx ls H (t::ts) (v::vs) ls' H':=by
 intro A B ρ fr F env s us hA hB hE hF hR hv;cases hv with
 | cons q qs=>
  rw[iO ht];show wpAny W.M A (gE (assign t env::(jE ts env).map (·.2)) (_::_)) _ _ _;rw[gE];refine aH (bX (lA (h A B ρ fr F env s _ hA hB hE hF hR q) λzz bA xq4=>gT xq4 λb9 bu j9 cj bY cf cR=>?_));exact lA (h' A b9 bu j9 F env bA _ hA (hB.mono cj.b) hE cR bY (qs.mono cj)) λzz zy z=>z.glue cj cf
def Gb{k:Nat}{pos:Pos}(hx:(∃ws,x= .U ws/\ws=vs)\/∃k,x= .ref k/\aF H k=some vs)(ht:ts.all cv=true)(hl:ts.length=vs.length)(h:J3 W d cx ls H ts vs ls' H'):TA W d cx ls H (.Tuple ts k pos) x ls' H':=by
 intro A B ρ fr F env s u hA hB hE hF hR hv
 erw [arm_assign_Tuple]
 refine aH (eh ?_);unfold unpack;have hn:=nB ht env
 erw [hn.1,hn.2,hl]
 refine aH (bX (qG hx hA hR hv λus h' tk R hus=>?_));exact lA (h A B ρ fr F env {s with heap:=h',toks:=tk} us hA hB hE hF R hus) λzz s' xq5=>gT xq5 λB' ρ' fr' g R' r f=>(pS B' ρ' fr' g R' (⟨r.1,r.2,r.3⟩) f)
end
end
section
mutual
variable{e:Expr}{st:Stmt}{sts:List Stmt}{v:AV}
variable{W:Wd}{d:Nat}{cx:CX}{ls bB pJ ls':Ls}{H H' au aP dM:Hp}
def IY:vm W d cx ls H [] .next ls H:=λA B ρ fr F env s hA hB hE hF hR=>wpAny_execs_nil (iR B ρ fr (.refl B ρ) hR (.refl s) hF .next)
def F4{fl:Fl}(h:TS W d cx ls H st .next bB au)(h':vm W d cx bB au sts fl ls' H'):vm W d cx ls H (st::sts) fl ls' H':=by
 intro A B ρ fr F env s hA hB hE hF hR;refine wpAny_execs_cons (lA (h A B ρ fr F env s hA hB hE hF hR) λr bA xq1=>jX xq1 λb9 bu j9 cj bY cf cR q=>?_);cases q
 exact lA (h' A b9 bu j9 F env bA hA (hB.mono cj.b) hE cR bY) λzz zy z=>z.glue cj cf
def yO{fl:Fl}(h:TS W d cx ls H st fl ls' H')(hn:fl≠ .next):vm W d cx ls H (st::sts) fl ls' H':=by
 intro A B ρ fr F env s hA hB hE hF hR;refine wpAny_execs_cons (lA (h A B ρ fr F env s hA hB hE hF hR) λr bA z=>?_);refine jX (id z) λb9 bu j9 cj bY cf cR q=>?_
 induction q using FlR.casesOn
 ·exact absurd rfl hn
 ·exact z
 ·exact z
def IV{pos:Pos}:TS W d cx ls H (.Pass pos) .next ls H:=λA B ρ fr F env s hA hB hE hF hR=>wpAny_Pass (iR B ρ fr (.refl B ρ) hR (.refl s) hF .next)
def IX{pos:Pos}:TS W d cx ls H (.Continue pos) .cont ls H:=λA B ρ fr F env s hA hB hE hF hR=>wpAny_Continue (iR B ρ fr (.refl B ρ) hR (.refl s) hF .cont)
def IU{pos:Pos}:TS W d cx ls H (.Return none pos) (.ret .none) ls H:=λA B ρ fr F env s hA hB hE hF hR=>wpAny_Return_none (iR B ρ fr (.refl B ρ) hR (.refl s) hF (.ret .none))
def Mt{pos:Pos}(h:TE W d cx ls H e v H'):TS W d cx ls H (.Return (some e) pos) (.ret v) ls H':=λA B ρ fr F env s hA hB hE hF hR=>
 wpAny_Return_some (h.goS hA hB hE hF hR λB' ρ' u s' g b f R r z=>(iR B' ρ' fr g R r f (.ret z)))
def rf(h:kO e=true)(t:Option Expr)(l:Nat)(env:Env):swapsWith e t l env=pure false:=by
 induction e using bE <;> first | rfl | exact ly h
def IW{pos:Pos}(he:kO e=true)(h:TE W d cx ls H e v H'):TS W d cx ls H (.Expr e pos) .next ls H':=λA B ρ fr F env s hA hB hE hF hR=>by
 refine wpAny_Expr_any (h.goS hA hB hE hF hR λB' ρ' u s' g b f R r z=>(iR B' ρ' fr g R r f .next)) ?_ (rf he _ _ _);unfold interactive
 erw [hE.scope,hE.kind];rfl
def Mu{c:Expr}{a b:List Stmt}{pos:Pos}{q:Bool}{fl:Fl}(h:TB W d cx ls H c q au)(h':vm W d cx ls au (if q=true then a else b) fl ls' H'):TS W d cx ls H (.If c a b pos) fl ls' H':=by
 intro A B ρ fr F env s hA hB hE hF hR;refine wpAny_If (h.goS hA hB hE hF hR λb9 bu bA cj di cR bY cf=>?_)
 induction q using aG <;> exact lA (h' A b9 bu fr F env bA hA di hE cR bY) λzz zy z=>z.glue cj cf
end
end
mutual
class inductive WRun(W:Wd)(d:Nat)(cx:CX)(c:Expr)(b:List Stmt):Nat->Ls->Hp->Fl->Ls->Hp->Prop
 | done {n:Nat} {ls:Ls} {H H':Hp}:TB W d cx ls H c false H'->WRun W d cx c b n ls H .next ls H'
 | turn {n:Nat} {ls bB ls':Ls} {H au aP H':Hp} {f fl:Fl}:TB W d cx ls H c true au->vm W d cx ls au b f bB aP->(f= .next\/f= .cont)->WRun W d cx c b n bB aP fl ls' H'->WRun W d cx c b (n+1) ls H fl ls' H'
 | ret {n:Nat} {ls ls':Ls} {H au H':Hp} {v:AV}:TB W d cx ls H c true au->vm W d cx ls au b (.ret v) ls' H'->WRun W d cx c b n ls H (.ret v) ls' H'
class inductive FRun(W:Wd)(d:Nat)(cx:CX)(t:Expr)(b:List Stmt):Nat->Ls->Hp->It->Fl->Ls->Hp->Prop
 | done {n:Nat} {ls:Ls} {H:Hp} {it:It}:it.next H=some none->FRun W d cx t b n ls H it .next ls H
 | turn {n:Nat} {ls bB pJ ls':Ls} {H au H':Hp} {it it':It} {v:AV} {f fl:Fl}:it.next H=some (some (v,it'))->TA W d cx ls H t v bB H->vm W d cx bB H b f pJ au->(f= .next\/f= .cont)->FRun W d cx t b n pJ au it' fl ls' H'->FRun W d cx t b (n+1) ls H it fl ls' H'
 | ret {n:Nat} {ls bB ls':Ls} {H H':Hp} {it it':It} {v w:AV}:it.next H=some (some (v,it'))->TA W d cx ls H t v bB H->vm W d cx bB H b (.ret w) ls' H'->FRun W d cx t b n ls H it (.ret w) ls' H'
end
section
mutual
variable{b:List Stmt}{A:Around}{s:Shared}{t c:Expr}{env:Env}{B:BgT}{ρ:List Addr}{I:Addr}{F:Raws}{m n:Nat}{gG:Ls}{bU:Hp}{u:Value}{o:Obj}{Q:Unit->Shared->Prop}{it:It}
variable{W:Wd}{d:Nat}{cx:CX}{ls bB pJ ls':Ls}{H H' au aP dM:Hp}
abbrev LT(I:Nat->Shared->Prop)(R:Result->Shared->Prop)(n:Nat)(f:Flow)(s:Shared):Prop:=
 match f with
 | .next | .cont=> ∃m,m<n/\I m s
 | .brk=>R (.ok .next) s
 | .ret v=>R (.ok (.ret v)) s
def Aw{R:Result->Shared->Prop}(I:Nat->Shared->Prop)(t:∀n s,I n s->wpAny W.M A (isTrue c env (eval c env)) (λq dR=>if q=true then wpAny W.M A (execs b env) (LT I R n) fh dR else wpAny W.M A (execs [] env) (λf oB=>R (.ok f) oB) fh dR) fh s)
  (n:Nat)(h:I n s):codeAny W.M A (.whileLoop c b [] env) R s:=
 codeAny_whileLoop I (λn s h=>dO (t n s h) (λq dR z=>by
  cases q using aG with
  | false=>exact Jx z
  | true=>exact Jx (lA z λf zz z=>by induction f using Flow.casesOn <;> exact z)) λzz zy e=>e.elim) n h
abbrev WI(W:Wd)(d:Nat)(cx:CX)(c:Expr)(b:List Stmt)(B:BgT)(ρ:List Addr)(F:Raws)(s:Shared)(env:Env)(fl:Fl)(ls':Ls)(H':Hp)(m:Nat)(s':Shared):Prop:=
 ∃B' ρ' fr' gG bU,Grow B ρ B' ρ'/\Rest s s'/\j2 W B' ρ' fr' env cx gG/\RM W B' ρ' (fr'++F) bU s'.heap/\WRun W d cx c b m gG bU fl ls' H'
def y8(hA:AOk A d)(hB:gw W B)(hE:EnvOk cx env){ls':Ls}{H':Hp}{fl:Fl}(w:WRun W d cx c b m gG bU fl ls' H'):
  ∀{R:Result->Shared->Prop} {b9:BgT} {bu:List Addr} {j9:Raws} {bA:Shared},(∀r s',PF W B ρ F s env cx fl ls' H' r s'->R (.ok r) s')->Grow B ρ b9 bu->Rest s bA->j2 W b9 bu j9 env cx gG->RM W b9 bu (j9++F) bU bA.heap->
   wpAny W.M A (isTrue c env (eval c env)) (λq dR=>if q=true then wpAny W.M A (execs b env) (LT (WI W d cx c b B ρ F s env fl ls' H') R m) fh dR else wpAny W.M A (execs [] env) (λf oB=>R (.ok f) oB) fh dR) fh bA:=by
 cases w using WRun.casesOn with
 | done h1=>exact λk cj cf cR bY=>(h1.goS hA (hB.mono cj.b) hE cR bY λfZ d8 dR eE iJ jc eJ fH=>wpAny_execs_nil (k _ _ (iR fZ d8 _ (cj.trans eE) eJ (cf.trans fH) jc .next)))
 | @turn n _ _ ls' _ _ _ H' _ fl h1 h2 h3 h4=>exact λk cj cf cR bY=>(h1.goS hA (hB.mono cj.b) hE cR bY λfZ d8 dR eE iJ jc eJ fH=>(lA (h2 A fZ d8 _ F env dR hA iJ hE jc eJ) λr oB xq2=>jX xq2 λnZ j4 yo iy jH lC CJ q=>
   have z:∃k,k<n+1/\WI W d cx c b B ρ F s env fl ls' H' k oB:=⟨_,cJ _,nZ,j4,yo,_,_,(cj.trans eE).trans iy,(cf.trans fH).trans lC,CJ,jH,h4⟩
   q.on h3 z z))
 | ret h1 h2=>exact λk cj cf cR bY=>(h1.goS hA (hB.mono cj.b) hE cR bY λfZ d8 dR eE iJ jc eJ fH=>(lA (h2 A fZ d8 _ F env dR hA iJ hE jc eJ) λr oB xq3=>jX xq3 λnZ j4 yo iy jH lC CJ q=>
   q.isRet λu z=>k _ _ (iR nZ j4 yo ((cj.trans eE).trans iy) jH ((cf.trans fH).trans lC) CJ (.ret z))))
def FZ{pos:Pos}{fl:Fl}(h:WRun W d cx c b n ls H fl ls' H'):TS W d cx ls H (.While c b [] pos) fl ls' H':=by
 intro A B ρ fr F env s hA hB hE hF hR;refine wpAny_While (Aw (WI W d cx c b B ρ F s env fl ls' H') (λm bA xq4=>Dp xq4 λb9 bu j9 gG bU cj cf cR bY w=>y8 hA hB hE w ?_ cj cf cR bY) n (EX B ρ fr ls H (.refl B ρ) (.refl s) hF hR h));exact λr s' z=>z
set_option backward.match.sparseCases true in
theorem me{n:String}{vs:Array Value}(ho:s.heap.get? I=some o)(hc:o.cls= .type n)(hd:o.data= .fields vs)
  (hn:["enumerate","zip","dict_itemiterator","dict_reverseitemiterator","odict_iterator","itertools.zip_longest","itertools.pairwise"].contains n=false)(h:Q () s):wpAny W.M A (hY t (.ref I) u) Q fh s:=by
 unfold hY;have go:wpAny W.M A (do
   let o <- load I
   match o.cls,o.data with
   | .type n, .fields vs=>
    if(["enumerate","zip","dict_itemiterator","dict_reverseitemiterator","odict_iterator","itertools.zip_longest","itertools.pairwise"].contains n && vs[0]? ==some (rawInt (match u with | .ref a=>a | _=>0)))=true then do
     rule "for.unpacks-the-owned-tuple"
     updateField I 0 .none
    else pure ()
   | _,_=>pure ()) Q fh s:=by
  refine aH (wpAny_load ho ?_)
  erw [hc,hd]
  try dsimp only
  erw [hn]
  exact bK h
 split
 ·induction u using gP <;> first | exact bK h | exact go
 ·induction u using gP <;> first | exact bK h | exact go
 ·exact bK h
def xe(x:Str):["enumerate","zip","dict_itemiterator","dict_reverseitemiterator","odict_iterator","itertools.zip_longest","itertools.pairwise"].contains (eY x)=false:=by
 unfold eY;split <;> decide
def Ei(hi:It1 W B ρ it o)(ho:s.heap.get? I=some o)(h:Q () s):wpAny W.M A (hY t (.ref I) u) Q fh s:=by
 cases hi using It1.casesOn with
 | str zz hc hd=>exact me ho hc hd (xe _) h
 | U zz zy zx zw hc hd=>exact me ho hc hd (by decide) h
 | a zz zy zx zw hc hd=>exact me ho hc hd (by decide) h
 | rng=>exact me ho rfl rfl (by decide) h
 | cell zz hc hd=>exact me ho hc hd (by decide) h
abbrev FI(W:Wd)(d:Nat)(cx:CX)(t:Expr)(b:List Stmt)(B:BgT)(ρ:List Addr)(F:Raws)(s:Shared)(env:Env)(fl:Fl)(ls':Ls)(H':Hp)(I:Addr)(m:Nat)(s':Shared):Prop:=
 ∃B' ρ' fr' gG bU j7 xA,Grow B ρ B' ρ'/\Rest s s'/\j2 W B' ρ' fr' env cx gG/\It1 W B' ρ' j7 xA/\RM W B' ρ' (fr'++((I,xA)::F)) bU s'.heap/\FRun W d cx t b m gG bU j7 fl ls' H'
def yq{bA:Shared}(hA:AOk A d)(hB:gw W B)(hE:EnvOk cx env){f:Fl}{v:AV}{it':It}(h2:TA W d cx ls H t v bB H)(h3:vm W d cx bB H b f pJ au)
  {b9:BgT}{bu:List Addr}{j9:Raws}(cj:Grow B ρ b9 bu)(cf:Rest s bA)(cR:j2 W b9 bu j9 env cx ls){oO:Obj}{uk:Heap}{tk:Tok}{u:Value}(xZ:It1 W b9 bu it' oO)(eJ:RM W b9 bu ((I,oO)::(j9++F)) H uk)(hv:VR W b9 bu v u){P:Flow->Shared->Prop}
  (k:∀o8 kG rA r mA,Grow B ρ o8 kG->Rest s mA->j2 W o8 kG rA env cx pJ->It1 W o8 kG it' oO->RM W o8 kG (rA++((I,oO)::F)) au mA.heap->FlR W o8 kG f r->P r mA):
  wpAny W.M A (hY t (.ref I) u) (λzz s'=>wpAny W.M A (assign t env u) (λzz dR=>wpAny W.M A (execs b env) P fh dR) fh s') fh {bA with heap:=uk,toks:=tk}:=
 (Ei xZ eJ.at ((lA (h2 A b9 bu j9 ((I,oO)::F) env {bA with heap:=uk,toks:=tk} u hA (hB.mono cj.b) hE cR eJ.front hv) λzz oB xq5=>gT xq5 λnZ j4 yo iy jH lC CJ=>
  (lA (h3 A nZ j4 yo ((I,oO)::F) env oB hA ((hB.mono cj.b).mono iy.b) hE CJ jH) λr mA xq6=>jX xq6 λo8 kG rA pT nD vP wk q=>
   k o8 kG rA r mA ((cj.trans iy).trans pT) ((Rest.trans (s':=bA) cf ⟨lC.1,lC.2,lC.3⟩).trans vP) wk (xZ.mono (iy.trans pT)) nD q))))
abbrev FT(W:Wd)(A:Around)(env:Env)(t:Expr)(b:List Stmt)(I:Addr)(J:Nat->Shared->Prop)(R:Result->Shared->Prop)(m:Nat)(r:Option Value)(bA:Shared):Prop:=
 match r with
 | none=>wpAny W.M A (execs [] env) (λf oB=>R (.ok f) oB) fh bA
 | some v=>wpAny W.M A (hY t (.ref I) v) (λzz s'=>wpAny W.M A (assign t env v) (λzz dR=>wpAny W.M A (execs b env) (LT J R m) fh dR) fh s') fh bA
def Fw{R:Result->Shared->Prop}{i:Addr}(I:Nat->Shared->Prop)(tu:∀n s,I n s->wpAny W.M A (pyNext (.ref i)) (FT W A env t b i I R n) fh s)
  (n:Nat)(h:I n s):codeAny W.M A (.forLoop t (.ref i) b [] env) R s:=
 codeAny_forLoop_any I (λn s h=>dO (tu n s h) (λr dR z=>by
  cases r using bf with
  | none=>exact Jx z
  | some v=>exact Jx (lA z λzz zy z=>Jx (lA z λzz zy z=>Jx (lA z λf zz z=>by induction f using Flow.casesOn <;> exact z)))) λzz zy e=>e.elim) n h
def E4(hA:AOk A d)(hB:gw W B)(hE:EnvOk cx env){ls':Ls}{H':Hp}{j7:It}{fl:Fl}(w:FRun W d cx t b m gG bU j7 fl ls' H'):
  ∀{R:Result->Shared->Prop} {b9:BgT} {bu:List Addr} {j9:Raws} {bA:Shared} {xA:Obj},(∀r s',PF W B ρ F s env cx fl ls' H' r s'->R (.ok r) s')->Grow B ρ b9 bu->Rest s bA->j2 W b9 bu j9 env cx gG->It1 W b9 bu j7 xA->RM W b9 bu (j9++((I,xA)::F)) bU bA.heap->
   wpAny W.M A (pyNext (.ref I)) (FT W A env t b I (FI W d cx t b B ρ F s env fl ls' H' I) R m) fh bA:=by
 cases w using FRun.casesOn with
 | done h1=>exact λk cj cf cR z6 bY=>(nL h1 hA.handled z6 bY.back λh' R'=>wpAny_execs_nil (k _ _ (iR _ _ _ cj R' (⟨cf.1,cf.2,cf.3⟩) cR .next)))
 | @turn n _ _ _ ls' _ _ H' _ _ _ _ fl h1 h2 h3 h4 h5=>exact λk cj cf cR z6 bY=>(nL h1 hA.handled z6 bY.back λoO uk tk u xZ eJ hv=>yq hA hB hE h2 h3 cj cf cR xZ eJ hv λo8 kG rA r mA g vP wk N6 nD q=>
   have z:∃k,k<n+1/\FI W d cx t b B ρ F s env fl ls' H' I k mA:=⟨_,cJ _,o8,kG,rA,_,_,_,oO,g,vP,wk,N6,nD,h5⟩
   q.on h4 z z)
 | ret h1 h2 h3=>exact λk cj cf cR z6 bY=>(nL h1 hA.handled z6 bY.back λoO uk tk u xZ eJ hv=>yq hA hB hE h2 h3 cj cf cR xZ eJ hv λo8 kG rA r mA g vP wk N6 nD q=>
   q.isRet λu z=>k _ _ (iR o8 kG rA g (RM.dropF (F1:= [(I,oO)]) nD.back) vP wk (.ret z)))
def Mv{src:Expr}{pos:Pos}{fl:Fl}{x:AV}(hs:TE W d cx ls H src x au)(hi:gC au x=some it)(hset:∀env x,fJ src env x=pure x)(h:FRun W d cx t b n ls au it fl ls' H'):TS W d cx ls H (.For t src b [] pos) fl ls' H':=by
 intro A B ρ fr F env s hA hB hE hF hR;refine wpAny_For (hs.goS hA hB hE hF hR λR2 Nb u rJ QN Ux HX RV KJ Qh=>vT hi hA RV Qh λI o i8 Ol bY=>?_) (hset env);refine Fw (FI W d cx t b B ρ F s env fl ls' H' I) (λm bA xq7=>Nd xq7 λb9 bu j9 gG bU j7 xA cj cf cR z6 bY w=>E4 hA hB hE w ?_ cj cf cR z6 bY) n (yg R2 Nb fr ls au it o QN (⟨KJ.1,KJ.2,KJ.3⟩) HX Ol bY.front h);exact λr s' z=>z
end
end
section
mutual
variable{o:Obj}
variable{B:BgT}{F rs:Raws}{h h':Heap}
def St.turn2{I J:Addr}{o' p p':Obj}(S:St B ((I,o)::(J,p)::F) rs h)(k:∀b x,b≠I->b≠J->h.get? b=some x->h'.get? b=some x)(e:h'.get? I=some o')(e':h'.get? J=some p'):St B ((I,o')::(J,p')::F) rs h':=by
 have hI:=S.frm (I,o) (.head _);have hJ:=S.frm (J,p) (.tail _ (.head _));have nd:=bS.mp S.nodF;have nd2:=bS.mp nd.2;refine⟨λb x q=>k b x (λz=>by rw[z,hI.2]at q;cases q) (λz=>by rw[z,hJ.2]at q;cases q) (S.keep b x q),λq hq=>?_,λq hq=>?_,S.nod,S.nodF⟩
 ·rcases aR.mp hq with rfl | hq
  ·exact⟨e,hI.2⟩
  ·rcases aR.mp hq with rfl | hq
   ·exact⟨e',hJ.2⟩
   ·have:=S.frm q (.tail _ (.tail _ hq));exact⟨k _ _ (λz=>nd.1 (by erw [bp];exact .tail _ (qH hq z))) (λz=>nd2.1 (qH hq z)) this.1,this.2⟩
 ·have:=S.got q hq;have hn:=this.2.2;simp only[bp,aR,not_or]at hn;exact eD (k _ _ hn.1 hn.2.1 this.1) this.2.1 (by simpa using hn)
set_option tactic.hygienic true in
theorem St.addB{a:Addr}(S:St B F rs h')(n2:a∉F.map (·.1))(n3:a∉rs.map (·.1))(e:h'.get? a=some o):St (B.put a o) F rs h':=by
 refine⟨λb x q=>?_,λp hp=>⟨(S.frm p hp).1,?_⟩,λp hp=>(eD ((S.got p hp).1) ?_ ((S.got p hp).2.2)),S.nod,S.nodF⟩
 ·unfold BgT.put at q
  split at q
  ·rename_i z;subst z;erw [e];exact q
  ·exact S.keep b x q
 ·erw [(vQ λq=>n2 (qH hp q))];exact(S.frm p hp).2
 ·erw [(vQ λq=>n3 (qH hp q))];exact(S.got p hp).2.1
end
end
mutual
noncomputable abbrev nP(J:Addr)(i:Int)(old:Value):Obj:={cls:= .type "enumerate",data:= .fields #[.none, .bool false, .ref J,rawInt i, .none,old]}
inductive ItX(W:Wd)(B:BgT)(ρ:List Addr):Bool->It->Addr->Raws->Prop
 | one {it:It} {I:Addr} {o:Obj}:It1 W B ρ it o->ItX W B ρ false it I [(I,o)]
 | enum {x s:List Nat} {t:Tok} {i:Nat} {I J:Addr} {o:Obj} {old:Value}:i<=x.length->s=x.drop i->o.cls= .type (eY (aO x))->o.data= .fields #[.str (aO x) t, .int i 0]->ItX W B ρ true (.enum i s) I [(I,nP J i old),(J,o)]
def ItX.mono{W:Wd}{B:BgT}{ρ:List Addr}(g:Grow B ρ B' ρ'){b:Bool}{it:It}{I:Addr}{io:Raws}(h:ItX W B ρ b it I io):ItX W B' ρ' b it I io:=by
 cases h using ItX.casesOn with
 | one a=>exact .one (a.mono g)
 | enum e a b c=>exact .enum e a b c
abbrev hW:Expr->Bool
 | .Tuple .. =>true
 | _=>false
def sj{t:Expr}(h:hW t=true):∃es k p,t= .Tuple es k p:=by
 cases t using bE with | Tuple es k p=>exact⟨es,k,p,rfl⟩ | _=>exact ly h
end
section
mutual
variable{A:Around}{F io:Raws}{s:Shared}{I:Addr}{t:Expr}{r:Option (AV×It)}{q:Bool}{it:It}{x:Str}{i:Nat}{v:AV}{ts:List Expr}{vs:List AV}
variable{W:Wd}{d:Nat}{cx:CX}{ls bB pJ ls':Ls}{H H' au aP dM:Hp}{B:BgT}{ρ:List Addr}
def CZ(hh:A.handled=none)(J:Addr)(x:List Nat)(t:Tok):Draws W.prog W.w A J [J] x.length (λi v=> ∃c u,x[i]? =some c/\v= .str ⟨#[c]⟩ u) (λi h=>h.IsStrIter J (eY (aO x)) (aO x) t i):=by
 have e1:(aO x).cps.size=x.length:=by simp[aO]
 have e2:∀i:Nat,(aO x).cps[i]? =x[i]?:=λi=>by simp[aO]
 unfold eY;cases ha:(aO x).cps.all (· <128)
 ·have:=Draws.strWide (prog:=W.prog) (w:=W.w) (A:=A) hh J (aO x) t;rw[e1]at this;simp only[e2]at this;simpa using this
 ·have:=Draws.strAscii (prog:=W.prog) (w:=W.w) (A:=A) hh J (aO x) t;rw[e1]at this;simp only[e2]at this;simpa using this
abbrev NX(W:Wd)(B:BgT)(ρ:List Addr)(F:Raws)(H:Hp)(I:Addr)(A:Around)(t:Expr)(q:Bool)(R:Option Value->Shared->Prop)(s:Shared)(r:Option (AV×It)):Prop:=
 bf (motive:=λzz=>Prop) r (∀h',RM W B ρ F H h'->R none {s with heap:=h'}) λp=> ∃K:Value->Shared->Prop,(∀u bA,wpAny W.M A (hY t (.ref I) u) (λzz dR=>K u dR) fh bA->R (some u) bA)/\
  ∀B' io' h' tk u,Grow B ρ B' ρ->ItX W B' ρ q p.2 I io'->RM W B' ρ (io'++F) H h'->VR W B' ρ p.1 u->K u {s with heap:=h',toks:=tk}
def NX.nk{R:Option Value->Shared->Prop}(k:NX W B ρ F H I A t false R s r):NK W B ρ F H I R s r:=by
 cases r using bf with
 | none=>exact k
 | some p=>exact aM k λK kn k1=>λo' h' tk u i' R' hv=>kn _ _ (Ei i' R'.at (k1 B [(I,o')] h' tk u (.refl B ρ) (.one i') R' hv))
set_option tactic.hygienic true in
theorem Bj(h:it.next H=some r){R:Option Value->Shared->Prop}(hh:A.handled=none)(hq:q=true->hW t=true)(hi:ItX W B ρ q it I io)(hR:RM W B ρ (io++F) H s.heap)
  (k:NX W B ρ F H I A t q R s r):wpAny W.M A (pyNext (.ref I)) R fh s:=by
 cases hi using ItX.casesOn with
 | one hi=>exact nL h hh hi hR k.nk
 | enum hle hs hc hd=>
  rename_i x sg tk i I J o old
  refine aM (id hR) λrs S C=>?_;have hne:I≠J:=by
   have nd:=S.nodF
   exact λe=>(bS.mp nd).1 (e ▸.head _)
  have he:IsEnum s.heap I J i old:=(S.frm _ (.head _)).1;have hst:s.heap.IsStrIter J (eY (aO x)) (aO x) tk i:=(eH o ((S.frm _ (.tail _ (.head _))).1) hc hd);have D:=CZ (W:=W) (A:=A.in1) hh J x tk
  cases sg using aw with
  | nil=>
   have k0:=Gk (G:=NX W B ρ F H I A t true R s) h k;have hl:=nQ hs;have hlen:x.length<=i:=fm.mp hl;obtain rfl:i=x.length:=bJ hle hlen;refine wpAny_pyNext_enum_endD D he hst λh' z=>k0 h' ?_;have S1:St B ((J,o)::((I,nP J (x.length:Int) old)::F)) rs s.heap:=S.perm (List.Perm.swap ..);exact RM.shed (I:=I) (o:=nP J (x.length:Int) old) (h:=h') (bI rs (S1.shed λb y hb e=>z b y hb e) C) λ_ _ _ e=>e
  | cons c sg=>
   refine aM (Gk (G:=NX W B ρ F H I A t true R s) h k) λK kn k1=>?_;obtain⟨h1,h2⟩:=k8 hs;have hlt:i<x.length:=(aU.mp h1).1;refine wpAny_pyNext_enum_itemD D he hst hlt hne (by simpa using hne) λy h' tk' hy hE xq1 hT hsz hk=>dt xq1 λo' g1 g2 g3=>kn _ _ ?_;refine gz hy λc' u hc' xq2=>?_;subst xq2;rw[h1]at hc';(replace hc':=af hc';subst hc');refine ub (sj (hq rfl)) λelts kk tp et=>?_
   erw [et]
   refine wpAny_letOwnedTupleGo_enum hE λh'' hE' hs'=>?_;have hIT:s.heap.objs.size≠I:=λe=>by have:=Heap.lt_size he;rw[<- e]at this;exact jU _ this
   have hJT:J≠I:=λe=>hne e.symm;have hT':h''.get? s.heap.objs.size=some (y9 #[.int i tk', .str ⟨#[c]⟩ u] 0):=(hs'.2 _ hIT).trans hT;have hJ':h''.get? J=some o':=(hs'.2 _ hJT).trans g1;have S':=S.turn2 (h':=h'') (λb y hb1 hb2 e=>(hs'.2 b hb1).trans (hk b y hb1 hb2 e)) hE' hJ';have fr:=S.free (bQ (ay s.heap.objs.size));have g:Grow B ρ (B.put s.heap.objs.size (y9 #[.int i tk', .str ⟨#[c]⟩ u] 0)) ρ:= .ofB ρ (.put fr.1);refine k1 _ [(I,nP J ((i+1:Nat):Int) (.str ⟨#[c]⟩ u)),(J,o')] h'' (tk'+1) _ g (.enum hlt h2 g2 g3) (bI rs ?_ (C.mono g)) ?_
   ·exact S'.addB (by simpa using fr.2.1) fr.2.2 hT'
   ·exact .U kM ⟨rfl,0,rfl⟩ (.cons .int (.cons .str .nil))
set_option tactic.hygienic true in
theorem Bk{Q:Value->Shared->Prop}(hi:ItX W B ρ q it I io)(hR:RM W B ρ (io++F) H s.heap)(h:Q (.ref I) s):wpAny W.M A (pyIter (.ref I)) Q fh s:=by
 cases hi using ItX.casesOn with
 | one hi=>
  have ho:=hR.at
  cases hi using It1.casesOn with
  | str _ hc hd=>
   rename_i x t i _ _ _
   have hit:s.heap.IsStrIter _ (eY (aO x)) (aO x) t i:=(eH _ ho hc hd);unfold eY at hit
   split at hit
   ·exact wpAny_pyIter_striter_ascii hit h
   ·exact wpAny_pyIter_striter_wide hit h
  | U _ _ _ _ hc hd=>exact wpAny_pyIter_tupleiter (eH _ ho hc hd) h
  | a _ _ _ _ hc hd=>exact wpAny_pyIter_listiter (eH _ ho hc hd) h
  | rng=>exact wpAny_pyIter_rangeiter ho h
  | cell _ hc hd=>exact wpAny_pyIter_listiter (eH _ ho hc hd) h
 | enum _ _ _ _=>
  have ho:=hR.frm _ (.head _);exact wpAny_pyIter_enum ho h
def pf.store(ok:CXOk W cx){F1:Raws}{env:Env}{o:Obj}{E:Value->Shared->Prop}{av:AV}{v:Value}{Q:Unit->Shared->Prop}
  (hE:EnvOk cx env)(sub:∀p∈F1,p∈F)(hf:pf W B ρ ((env.locals,o)::F1) env cx ls)(hR:RM W B ρ ((env.locals,o)::F) H s.heap)(hi:cx.slots.lookup x=some i)(hk:cx.scope.names.lookup x=some .local)(hv:VR W B ρ av v)
  (h:∀h' tk o',pf W B ρ ((env.locals,o')::F1) env cx (ls.set i (some av))->RM W B ρ ((env.locals,o')::F) H h'->Q () {s with heap:=h',toks:=tk}):wpAny W.M A (storeName env x v) Q E s:=by
 refine dY hf λxA m hL N lo=>?_;refine aM hR λrs S C=>?_;have hkind:env.scope.kind= .function:=by erw [hE.scope];exact hE.kind
 have hk':env.kindOf x=some .local:=by unfold Env.kindOf;erw [hE.scope];exact hk
 have up:∀p∈(env.locals,o)::F1,p∈(env.locals,o)::F:=λp hp=>by
  rcases aR.mp hp with rfl | hp
  ·exact .head _
  ·exact .tail _ (sub p hp)
 obtain rfl:=S.uniq (up _ hL) (.head _);have nsL:s.heap.Ns env.locals m:=S.ns (up _ hL) N;refine dY N λes ep e1 e2 e3=>?_;refine wpAny_storeName_local hk' nsL (λh' hn' hs'=>?_) (by erw [hkind];rfl);refine gT hn' λo' es' ep' g1 g2 g3 g4=>?_;have S':=S.updF (F1:= []) hs' g1;refine h h' (s.toks+1) o' (i7 o' _ (.head _) ((i7 es' ep' g2 g3 g4)) (λy j av' hj e=>?_)) ⟨rs,S',C⟩;rcases vN e with⟨q,q2⟩ | ⟨q,e⟩
 ·obtain rfl:y=x:=ok.inj _ _ _ (q ▸hj) hi;exact bI v (.inl ⟨hk',if_pos rfl⟩) (q2 ▸hv)
 ·refine aM (lo y j av' hj e) λu l g=>?_;have hy:y≠x:=λz=>q (af (hj.symm.trans (z ▸hi)));exact bI u (l.other (λe=>(if_neg hy).trans e) λc oc zz hm hd=> .tail _ ((aR.mp hm).resolve_left λe=>by
   rw[(aD e).2,e1]at hd;exact nomatch hd)) g
abbrev I7(W:Wd)(cx:CX)(ls:Ls)(H:Hp)(t:Expr)(v:AV)(ls':Ls):Prop:=
 ∀(d:Nat) (A:Around) (B:BgT) (ρ:List Addr) (F1 F:Raws) (env:Env) (o:Obj) (s:Shared) (u:Value) (Q:Unit->Shared->Prop),AOk A d->EnvOk cx env->(∀p∈F1,p∈F)->pf W B ρ ((env.locals,o)::F1) env cx ls->RM W B ρ ((env.locals,o)::F) H s.heap->VR W B ρ v u->
  (∀h' tk o',pf W B ρ ((env.locals,o')::F1) env cx ls'->RM W B ρ ((env.locals,o')::F) H h'->Q () {s with heap:=h',toks:=tk})->wpAny W.M A (assign t env u) Q fh s
def yP(ok:CXOk W cx){pos:Pos}{ls':Ls}(hi:cx.slots.lookup x=some i)(hk:cx.scope.names.lookup x=some .local)(h:jh ls i v=some ls'):I7 W cx ls H (.Name x pos) v ls':=by
 intro d A B ρ F1 F env o s u Q hA hE sb hf hR hv k;rw[ju h]at k;exact wpAny_assign_Name (hf.store ok hE sb hR hi hk hv k)
abbrev Ga(W:Wd)(cx:CX)(ls:Ls)(H:Hp)(ts:List Expr)(vs:List AV)(ls':Ls):Prop:=
 ∀(d:Nat) (A:Around) (B:BgT) (ρ:List Addr) (F1 F:Raws) (env:Env) (o:Obj) (s:Shared) (us:List Value) (Q:Unit->Shared->Prop),AOk A d->EnvOk cx env->(∀p∈F1,p∈F)->pf W B ρ ((env.locals,o)::F1) env cx ls->RM W B ρ ((env.locals,o)::F) H s.heap->VRs W B ρ vs us->
  (∀h' tk o',pf W B ρ ((env.locals,o')::F1) env cx ls'->RM W B ρ ((env.locals,o')::F) H h'->Q () {s with heap:=h',toks:=tk})->wpAny W.M A (gE ((jE ts env).map (·.2)) us) Q fh s
def F9:Ga W cx ls H [] [] ls:=by
 intro d A B ρ F1 F env o s us Q hA hE sb hf hR hv k;cases hv
 exact bK (k s.heap s.toks o hf hR)
def C8{bB ls':Ls}(ht:cv t=true)(h:I7 W cx ls H t v bB)(h':Ga W cx bB H ts vs ls'):Ga W cx ls H (t::ts) (v::vs) ls':=by
 intro d A B ρ F1 F env o s us Q hA hE sb hf hR hv k;cases hv with
 | cons q qs=>
  rw[iO ht];show wpAny W.M A (gE (assign t env::(jE ts env).map (·.2)) (_::_)) _ _ _;rw[gE];exact aH (bX (h d A B ρ F1 F env o s _ _ hA hE sb hf hR q λi8 tk Qm cR bY=>h' d A B ρ F1 F env Qm {s with heap:=i8,toks:=tk} _ Q hA hE sb cR bY qs k))
def I6{kk:Nat}{pos:Pos}{x:AV}{ls':Ls}(hx:(∃ws,x= .U ws/\ws=vs)\/∃k,x= .ref k/\aF H k=some vs)(ht:ts.all cv=true)(hl:ts.length=vs.length)(h:Ga W cx ls H ts vs ls'):I7 W cx ls H (.Tuple ts kk pos) x ls':=by
 intro d A B ρ F1 F env o s u Q hA hE sb hf hR hv k
 erw [arm_assign_Tuple]
 refine aH (eh ?_);unfold unpack;have hn:=nB ht env
 erw [hn.1,hn.2,hl]
 refine aH (bX (qG hx hA hR hv λus h' tk R hus=>?_));exact h d A B ρ F1 F env o {s with heap:=h',toks:=tk} us Q hA hE sb hf R hus k
end
end
mutual
def og [BEq α](x:α):∀(l r:List (α×β)),(l++r).lookup x=(match l.lookup x with | some v=>some v | none=>r.lookup x)
 | [],r=>rfl
 | (k,v)::l,r=>by
  simp only[jl,gc];cases x==k
  ·exact og x l r
  ·rfl
def oe(x:Str)(p:Str->Bool):∀l:List (Str×β),(l.filter fun(y,zz)=>p y).lookup x=if p x=true then l.lookup x else none
 | []=>by simp
 | (k,v)::l=>by
  have ih:=oe x p l;simp only[List.filter_cons,gc];by_cases e:x=k
  ·subst e;cases q:p x with
   | true=>simp[q,gc]
   | false=>simp only[fF,if_false];erw [ih,q];simp
  ·have e':(x==k)=false:=by simpa using e
   cases q:p k with
   | true=>simp only[if_true,gc,e'];exact ih
   | false=>simp only[fF,if_false,e'];exact ih
def oP{x:Str}{i:Nat}:∀{ns:List Str} {a:Nat},(ns.zip (fM a ns.length)).lookup x=some i->a<=i/\i<a+ns.length/\ns[i-a]? =some x
 | [],a,h=>by simp at h
 | n::ns,a,h=>by
  simp only[aJ,List.range'_succ,List.zip_cons_cons,gc]at h;cases e:x==n with
  | true=>rw[e]at h;(replace h:=af h;subst h);refine eD (ay _) (by simp) ?_;erw [mT];simp;exact(eq_of_beq e).symm
  | false=>
   rw[e]at h;refine kI (oP h) λh1 h2 h3=>?_;refine eD (by exact(bF ai az [(bh,az)] aS h1)) (by simp only[aJ];exact(gn bh (aK az mc) [(bh,aK cO bH)] aS h2)) ?_
   erw [(show i-a=(i-(a+1))+1 by exact(bJ (gV ai cO [(aK ai bH,cQ),(cQ,aK az mc)] aS (pK (dW (bF ai az [(bh,az)] aS h1))) (th _ _)) (gV bh az [(aK ai mc,cQ),(cQ,aK az bH)] aS (pK (dW h1)) (th _ _))))]
   simpa using h3
def sQ{cx:CX}{env:Env}(h:env.scope=cx.scope)(sc:Scope):relabel sc env=qX cx.scope sc:=by
 unfold relabel qX Env.kindOf
 erw [h];rfl
def jD(out:Scope)(x:Str):∀l:List (Str×NameKind),(l.map fun(n,k)=>if(k== .free && out.kind== .function && out.names.lookup n==some .cell)=true then(n,NameKind.cell)else(n,k)).lookup x=
  (l.lookup x).map λk=>if(k== .free && out.kind== .function && out.names.lookup x==some .cell)=true then .cell else k
 | []=>rfl
 | (n,k)::l=>by
  have ih:=jD out x l;have e1:(if(k== .free && out.kind== .function && out.names.lookup n==some .cell)=true then(n,NameKind.cell)else(n,k))=(n,if(k== .free && out.kind== .function && out.names.lookup n==some .cell)=true then .cell else k):=by split <;> rfl
  simp only[bp]
  erw [e1]
  simp only[gc];cases e:x==n with
  | false=>exact ih
  | true=>obtain rfl:=eq_of_beq e;rfl
abbrev nz(env:Env):List (Str×NameKind)->List (Str×Addr)->List (Str×Addr)
 | [],acc=>acc
 | (n,k)::r,acc=>if k== .free then nz env r ((n,(env.cells.lookup n).getD 0)::acc)else nz env r acc
def uq{env:Env}{sc:Scope}(h:∀n,(n,NameKind.free)∈sc.names->∃c,env.cells.lookup n=some c):closureFor sc env=pure (nz env sc.names []):=by
 unfold closureFor;have main:∀(l:List (Str×NameKind)) (acc:List (Str×Addr)),(∀n,(n,NameKind.free)∈l->∃c,env.cells.lookup n=some c)->
   (forIn l acc λx r=>(do
    let (name,kind):=x
    let cs:=r
    if(kind== .free)=true then do
     let c <- cellOf env name
     let cs:=(name,c)::cs
     pure PUnit.unit
     pure (ForInStep.yield cs)
    else do
     pure PUnit.unit
     pure (ForInStep.yield cs):Sem _))=pure (nz env l acc):=by
  intro l
  induction l with
  | nil=>intro acc zz;rfl
  | cons p l ih=>
   obtain⟨n,k⟩:=p
   intro acc hc
   erw [List.forIn_cons]
   unfold nz
   cases hk:k==NameKind.free with
   | true=>
    have hk':k= .free:=by simpa using hk
    subst hk'
    obtain⟨c,e⟩:=hc n (.head _)
    have e2:cellOf env n=pure c:=by unfold cellOf;erw [e];rfl
    erw [e]
    simp only[if_true,e2,pure_bind,Option.getD_some]
    exact ih _ λm hm=>hc m (.tail _ hm)
   | false=>
    simp only[hk,fF,if_false,pure_bind]
    exact ih _ λm hm=>hc m (.tail _ hm)
 have:=main sc.names [] h;simp only[this,pure_bind]
def jN{env:Env}{x:Str}{c:Addr}(hc:env.cells.lookup x=some c):∀(l:List (Str×NameKind)) (acc:List (Str×Addr)),((x,NameKind.free)∈l\/acc.lookup x=some c)->(nz env l acc).lookup x=some c
 | [],acc,h=>by rcases h with h | h;cases h;exact h
 | (n,k)::r,acc,h=>by
  unfold nz;cases hk:k==NameKind.free with
  | true=>
   simp only[if_true];refine jN hc r _ ?_;by_cases e:x=n
   ·subst e;exact .inr (by simp[hc])
   ·rcases h with h | h
    ·rcases aR.mp h with q | q
     ·cases q;exact absurd rfl e
     ·exact .inl q
    ·refine .inr ?_;have e':(x==n)=false:=by simpa using e
     simp only[gc,e'];exact h
  | false=>
   simp only[fF,if_false];refine jN hc r _ ?_;rcases h with h | h
   ·rcases aR.mp h with q | q
    ·cases q;cases hk
    ·exact .inl q
   ·exact .inr h
structure ScF(cx:CX)(sc:Scope)(pt:PT):Prop where
 kind:sc.kind= .function
 names:∀x∈sc.names,x.2= .local->sc.names.lookup x.1=some .local
 nocell:∀x∈sc.names,x.2≠ .cell
 frees:∀n,(n,NameKind.free)∈sc.names->cx.scope.names.lookup n=some .cell
 new:∀i∈pt.slots,cx.nxt<=i
 all:∀i,cx.nxt<=i->i<cx.nxt+(pG sc).length->i∈pt.slots
def qA{cx:CX}{sc:Scope}{pt:PT}(h:G1 cx sc pt=true):ScF cx sc pt:=by
 unfold G1 at h;simp only[cw,aT]at h;obtain⟨xq1,h6⟩:=h;obtain⟨xq2,h5⟩:=xq1;obtain⟨xq3,h4⟩:=xq2;obtain⟨xq4,h3⟩:=xq3;obtain⟨h1,h2⟩:=xq4;refine⟨by simpa using h1,fun⟨n,k⟩ hx hk=>?_,fun⟨n,k⟩ hx hk=>?_,λn hx=>?_,λi hi=>ab (h5 i hi),λi a b=>?_⟩
 ·have:=h2 _ hx
  try dsimp only at this hk
  subst hk;simpa using this
 ·have:=h3 _ hx
  try dsimp only at this hk
  subst hk;simp at this
 ·have:=h4 _ hx;simpa using this
 ·have:=h6 i (List.mem_range'_1.mpr ⟨a,b⟩);simpa using this
def eU [BEq α] [LawfulBEq α]{x:α}{v:β}:∀{l:List (α×β)},l.lookup x=some v->(x,v)∈l
 | [],h=>by simp at h
 | (k,w)::l,h=>by
  simp only[gc]at h;cases e:x==k with
  | true=>rw[e]at h;(replace h:=af h;subst h);erw [eq_of_beq e];exact .head _
  | false=>rw[e]at h;exact .tail _ (eU h)
end
section
mutual
variable{env:Env}
variable{W:Wd}{cx:CX}{sc:Scope}{pt:PT}
set_option tactic.hygienic true in
theorem jy(cx:CX)(sc:Scope){x:Str}{i:Nat}(h:(cx.inner sc).slots.lookup x=some i):
  (cx.nxt<=i/\i<cx.nxt+(pG sc).length/\(pG sc)[i-cx.nxt]? =some x)\/(cx.slots.lookup x=some i/\sc.names.lookup x=some .free):=by
 unfold CX.inner at h
 try dsimp only at h
 rw[og]at h
 split at h
 ·rename_i j e
  (replace h:=af h;subst h)
  exact .inl (oP e)
 ·have e:=oe (β:=Nat) x (λy=>sc.names.lookup y==some .free) cx.slots;have e2:(cx.slots.filter fun(y,_)=>sc.names.lookup y==some .free).lookup x=some i:=h;rw[e]at e2
  split at e2
  ·rename_i q
   exact .inr ⟨e2,by simpa using q⟩
  ·cases e2
def pP(ok:CXOk W cx)(hs:ScF cx sc pt):CXOk W (cx.inner sc):=by
 refine⟨ok.glob,ok.nm,λx y i hx hy=>?_,λx i hx=>?_⟩
 ·rcases jy cx sc hx with⟨a,b,c⟩ | ⟨a,b⟩
  ·rcases jy cx sc hy with⟨a',b',c'⟩ | ⟨a',b'⟩
   ·rw[c]at c';exact af c'
   ·have:=ok.lt _ _ a';exact(CM [(bh,az),(az,ai)] aS this a).elim
  ·rcases jy cx sc hy with⟨a',b',c'⟩ | ⟨a',b'⟩
   ·have:=ok.lt _ _ a;exact(CM [(bh,az),(az,ai)] aS this a').elim
   ·exact ok.inj _ _ _ a a'
 ·show i<cx.nxt+(pG sc).length;rcases jy cx sc hx with⟨a,b,c⟩ | ⟨a,b⟩
  ·exact b
  ·have:=ok.lt _ _ a;exact(gn bh (aK az bH) [(bh,az)] aS this)
def pQ(cx:CX)(sc:Scope)(x:Str):(cx.inner sc).scope.names.lookup x=(sc.names.lookup x).map λk=>if(k== .free && cx.scope.kind== .function && cx.scope.names.lookup x==some .cell)=true then .cell else k:=
 jD cx.scope x sc.names
noncomputable abbrev C4(sc:Scope)(C:Addr)(env:Env):Env:=compEnvC sc (nz env sc.names []) C env
set_option tactic.hygienic true in
theorem CE(hs:ScF cx sc pt)(hE:EnvOk cx env)(C:Addr):EnvOk (cx.inner sc) (C4 sc C env):=by
 refine⟨sQ hE.scope sc,hE.globals,hE.builtins,hs.kind,λx hx=>?_⟩;rw[pQ]at hx;refine aM (bL.mp hx) λk hk e=>?_;have hm:=eU hk
 split at e
 ·rename_i q
  simp only[cw,beq_iff_eq]at q;obtain⟨c,hc⟩:=hE.cells x q.2;exact⟨c,jN hc _ _ (.inl (q.1.1 ▸hm))⟩
 ·exact absurd e (hs.nocell _ hm)
def CD(hs:ScF cx sc pt){B:BgT}{ρ:List Addr}{F:Raws}{ls:Ls}{C:Addr}{o:Obj}(hE:EnvOk cx env)(hF:pf W B ρ F env cx ls)(hf:eW ls pt=true)(N:vp o λzz=>none):pf W B ρ ((C,o)::F) (C4 sc C env) (cx.inner sc) ls:=by
 refine dY hF λxA m hL R1 lo=>?_;refine i7 o _ (.head _) N (λy i av hy hv=>?_);rcases jy cx sc hy with⟨a,b,c⟩ | ⟨a,b⟩
 ·unfold eW at hf;have:=aT.mp hf i (hs.all i a b);rw[hv]at this;cases this
 ·have hm:=eU b;have hk:=hs.frees y hm;refine aM (lo y i av a hv) λu l g=>?_;refine bI u ?_ g;rcases l with⟨k,_⟩ | ⟨_,c,oc,hc,hmem,hd⟩
  ·unfold Env.kindOf at k;rw[hE.scope,hk]at k;cases k
  ·refine .inr ⟨.inl ?_,c,oc,jN hc _ _ (.inl hm), .tail _ hmem,hd⟩;show(relabel sc env).names.lookup y=_;rw[sQ hE.scope];have e:=jD cx.scope y sc.names;refine e.trans ?_
   erw [b,hk]
   simp[hE.kind]
end
end
mutual
class inductive CRun(W:Wd)(d:Nat)(cx:CX)(t:Expr)(c:Option Expr)(elt:Expr)(k:Nat):Nat->Ls->Hp->It->Hp->Prop
 | done {n:Nat} {ls:Ls} {H:Hp} {it:It}:it.next H=some none->CRun W d cx t c elt k n ls H it H
 | skip {n:Nat} {ls bB:Ls} {H au H':Hp} {it it':It} {v:AV} {e:Expr}:it.next H=some (some (v,it'))->I7 W cx ls H t v bB->c=some e->TB W d cx bB H e false au->CRun W d cx t c elt k n bB au it' H'->CRun W d cx t c elt k (n+1) ls H it H'
 | take {n:Nat} {ls bB:Ls} {H au aP dM H':Hp} {it it':It} {v x r:AV}:it.next H=some (some (v,it'))->I7 W cx ls H t v bB->((c=none/\au=H)\/∃e,c=some e/\TB W d cx bB H e true au)->TE W d cx bB au elt x aP->kR (.ref k) 0 [x] aP=some (r,dM)->CRun W d cx t c elt k n bB dM it' H'->CRun W d cx t c elt k (n+1) ls H it H'
abbrev ML(W:Wd)(d:Nat)(cx:CX)(ls:Ls)(H:Hp)(e:Expr)(q:Bool)(it:It)(H':Hp):Prop:=
 ∀(A:Around) (B:BgT) (ρ:List Addr) (F:Raws) (env:Env) (s:Shared) (Q:Value->Shared->Prop),AOk A d->gw W B->EnvOk cx env->pf W B ρ F env cx ls->RM W B ρ F H s.heap->
  (∀B' ρ' I io s',Grow B ρ B' ρ'->gw W B'->RM W B' ρ' (io++F) H' s'.heap->Rest s s'->ItX W B' ρ' q it I io->Q (.ref I) s')->
  wpAny W.M A (eval e env) (λu bA=>wpAny W.M A (pyIter u) Q fh bA) fh s
end
section
mutual
variable{it:It}{n:Nat}
variable{W:Wd}{d:Nat}{cx:CX}{ls bB pJ ls':Ls}{H H' au aP dM:Hp}{sc:Scope}{pt:PT}
def C9{e:Expr}{x:AV}(h:TE W d cx ls H e x H')(hi:gC H' x=some it):ML W d cx ls H e false it H':=by
 intro A B ρ F env s Q hA hB hE hF hR k;refine h.go hA hB hE hF hR λb9 bu u bA g b f R r v=>vT hi hA R v λI o h' hi' R'=>?_;exact k b9 bu I [(I,o)] _ g b R' ⟨r.1,r.2,r.3⟩ (.one hi')
set_option tactic.hygienic true in
theorem Gc(W1:W.Top){f:Str}{p pos:Pos}{x:Expr}{t:List Nat}(hx:cv x=true)(ho:Ej f=false)(hs:cx.scope.names.lookup f=some .globalImplicit)(hg:Gl W f (.type "enumerate"))(h:TE W d cx ls H x (.str t) H'):ML W d cx ls H (.Call (.Name f p) [x] [] pos) true (.enum 0 t) H':=by
 intro A B ρ F env s Q hA hB hE hF hR k;refine wpAny_Call_NameR (kD W1 hE (kQ ho).1 hg hs (hR.base hB) (fA (by erw [o5,hx];rfl) ?_));rw[dS hx];refine spliced_cons (h.go hA hB hE hF hR λb9 bu u bA cj di cR bY cf dZ=>spliced_nil ⟨oR _,?_⟩);cases dZ
 rename_i tk
 refine call_enumerate_str λh' he xq5 hz hk=>dt xq5 λo g1 g2 g3=>?_;have hi:ItX W b9 bu true (.enum 0 t) (bA.heap.objs.size+1) [(bA.heap.objs.size+1,nP bA.heap.objs.size ((0:Nat):Int) .none),(bA.heap.objs.size,o)]:= .enum (aY _) rfl g2 g3;refine aM bY λrs S C=>?_;have n1:bA.heap.get? bA.heap.objs.size=none:=bQ (ay _);have n2:bA.heap.get? (bA.heap.objs.size+1)=none:=bQ (ox _);have S1:St b9 ((bA.heap.objs.size,o)::F) rs h':=S.allocF n1 hk g1;have f2:=S.free n2;have S2:St b9 ((bA.heap.objs.size+1,nP bA.heap.objs.size ((0:Nat):Int) .none)::(bA.heap.objs.size,o)::F) rs h':=by
  refine⟨S1.keep,λp hp=>?_,λp hp=>(eD ((S1.got p hp).1) ((S1.got p hp).2.1) ?_),S1.nod,bS.mpr ⟨?_,S1.nodF⟩⟩
  ·rcases aR.mp hp with rfl | hp
   ·exact⟨he,f2.1⟩
   ·exact S1.frm p hp
  ·erw [bp];rewrite [aR,not_or]
   exact⟨λq=>f2.2.2 (qH hp q),(S1.got p hp).2.2⟩
  ·erw [bp];rewrite [aR,not_or]
   exact⟨Nat.succ_ne_self _,f2.2.1⟩
 exact Bk (q:=true) (io:= [(_,_),(_,_)]) (F:=F) (s:={bA with heap:=h'}) hi (bI rs S2 C) (k b9 bu _ _ _ cj di (bI rs S2 C) ⟨cf.1,cf.2,cf.3⟩ hi)
structure CK where
 W:Wd
 d:Nat
 cx:CX
 t:Expr
 c:Option Expr
 elt:Expr
 l:Nat
 H':Hp
 q:Bool
 B:BgT
 ρ:List Addr
 I:Addr
 F:Raws
 s:Shared
 env:Env
 A:Around
structure CF(K:CK)(B':BgT)(ρ':List Addr)(io':Raws)(o':Obj)(gG:Ls)(bU:Hp)(j7:It)(s':Shared):Prop where
 g:Grow K.B K.ρ B' ρ'
 r:Rest K.s s'
 i:ItX K.W B' ρ' K.q j7 K.I io'
 R:RM K.W B' ρ' ((K.env.locals,o')::(io'++K.F)) bU s'.heap
 f:pf K.W B' ρ' ((K.env.locals,o')::K.F) K.env K.cx gG
noncomputable abbrev CK.run(K:CK):Nat->Ls->Hp->It->Prop:=λm ls H it=>CRun K.W K.d K.cx K.t K.c K.elt K.l m ls H it K.H'
inductive CIt(K:CK)(m:Nat)(s':Shared):Prop
 | mk {B':BgT} {ρ':List Addr} {io':Raws} {o':Obj} {gG:Ls} {bU:Hp} {j7:It} (f:CF K B' ρ' io' o' gG bU j7 s') (w:K.run m gG bU j7)
inductive CB(K:CK)(m:Nat)(bB:Ls)(bU:Hp)(it':It):Prop
 | skip {e:Expr} {au:Hp} (hc:K.c=some e) (h:TB K.W K.d K.cx bB bU e false au) (w:K.run m bB au it')
 | all {aP dM:Hp} {x r:AV} (hc:K.c=none) (h:TE K.W K.d K.cx bB bU K.elt x aP) (a:kR (.ref K.l) 0 [x] aP=some (r,dM)) (w:K.run m bB dM it')
 | take {e:Expr} {au aP dM:Hp} {x r:AV} (hc:K.c=some e) (h:TB K.W K.d K.cx bB bU e true au) (h2:TE K.W K.d K.cx bB au K.elt x aP) (a:kR (.ref K.l) 0 [x] aP=some (r,dM)) (w:K.run m bB dM it')
inductive CT(K:CK)(m:Nat)(s':Shared):Prop
 | mk {B':BgT} {ρ':List Addr} {io':Raws} {o':Obj} {bB:Ls} {bU:Hp} {it':It} {m':Nat} (hm:m=m'+1) (f:CF K B' ρ' io' o' bB bU it' s') (b:CB K m' bB bU it')
abbrev CR(K:CK)(fin:Shared->Prop)(G:Nat->Shared->Prop)(m:Nat)(r:Option Value)(bA:Shared):Prop:=match r with
 | none=>fin bA
 | some v=>wpAny K.W.M K.A (hY K.t (.ref K.I) v) (λzz rJ=>wpAny K.W.M K.A (assign K.t K.env v) (λzz dR=>G m dR) fh rJ) fh bA
def CF.move{K:CK}{B' b9:BgT}{ρ' bu:List Addr}{io':Raws}{o':Obj}{gG:Ls}{bU au:Hp}{j7:It}{s' bA:Shared}(f:CF K B' ρ' io' o' gG bU j7 s')(g:Grow B' ρ' b9 bu)(R:RM K.W b9 bu ((K.env.locals,o')::(io'++K.F)) au bA.heap)(r:Rest s' bA):CF K b9 bu io' o' gG au j7 bA:=
 ⟨f.g.trans g,f.r.trans r,f.i.mono g,R,f.f.mono g⟩
def CRun.on{W:Wd}{d:Nat}{cx:CX}{t:Expr}{c:Option Expr}{elt:Expr}{k:Nat}{ls:Ls}{H H':Hp}{p:Prop}(w:CRun W d cx t c elt k n ls H it H')(kd:it.next H=some none->H=H'->p)
  (ks:∀{n' bB au it' v e},n=n'+1->it.next H=some (some (v,it'))->I7 W cx ls H t v bB->c=some e->TB W d cx bB H e false au->CRun W d cx t c elt k n' bB au it' H'->p)
  (kt:∀{n' bB au aP dM it' v x r},n=n'+1->it.next H=some (some (v,it'))->I7 W cx ls H t v bB->((c=none/\au=H)\/∃e,c=some e/\TB W d cx bB H e true au)->TE W d cx bB au elt x aP->kR (.ref k) 0 [x] aP=some (r,dM)->CRun W d cx t c elt k n' bB dM it' H'->p):p:=by
 cases w using CRun.casesOn with
 | done h=>exact kd h rfl
 | skip h1 h2 h3 h4 h5=>exact ks rfl h1 h2 h3 h4 h5
 | take h1 h2 h3 h4 h5 h6=>exact kt rfl h1 h2 h3 h4 h5 h6
set_option tactic.hygienic true in
theorem C2{K:CK}{fin:Shared->Prop}(hA:AOk K.A K.d)(hE:EnvOk K.cx K.env)(hq:K.q=true->hW K.t=true)
  (hfin:∀{B' ρ' o' gG s'},Grow K.B K.ρ B' ρ'->Rest K.s s'->RM K.W B' ρ' ((K.env.locals,o')::K.F) K.H' s'.heap->pf K.W B' ρ' ((K.env.locals,o')::K.F) K.env K.cx gG->fin s'){m:Nat}{s':Shared}(h:CIt K m s'):
  wpAny K.W.M K.A (pyNext (.ref K.I)) (CR K fin (CT K) m) fh s':=by
 cases h using CIt.casesOn with | mk f w=>?_
 rename_i B' ρ' io' o' gG bU j7
 have S:=f.R.perm lW.symm;have go:∀{v:AV} {it':It} {bB:Ls} {m':Nat},j7.next bU=some (some (v,it'))->I7 K.W K.cx gG bU K.t v bB->m=m'+1->CB K m' bB bU it'->wpAny K.W.M K.A (pyNext (.ref K.I)) (CR K fin (CT K) m) fh s':=fun{v it' bB m'} h1 h2 hm b=>
  Bj (t:=K.t) h1 hA.handled hq f.i S ⟨λu rJ=>wpAny K.W.M K.A (assign K.t K.env u) (λ_ dR=>CT K m dR) fh rJ,λ_ _ z=>z,λfZ Oa HT tk u gB xZ eJ hv=>
   h2 K.d K.A fZ ρ' K.F (Oa++K.F) K.env o' {s' with heap:=HT,toks:=tk} u _ hA hE (λp hp=>bC _ hp) (f.f.mono gB) (eJ.perm lW) hv λTP R6 TI wk nD=>
    .mk hm ⟨f.g.trans gB,⟨f.r.1,f.r.2,f.r.3⟩,xZ,nD,wk⟩ b⟩;refine w.on (λh1 e=>Bj (t:=K.t) h1 hA.handled hq f.i S λHT jH=>hfin f.g ⟨f.r.1,f.r.2,f.r.3⟩ (e ▸jH) f.f) (λhm h1 h2 h3 h4 h5=>go h1 h2 hm (.skip h3 h4 h5)) λhm h1 h2 h3 h4 h5 h6=>?_;rcases h3 with⟨q,e⟩ | ⟨e,q,h3⟩
 ·exact go h1 h2 hm (.all q (e ▸h4) h5 h6)
 ·exact go h1 h2 hm (.take q h3 h4 h5 h6)
def yD{K:CK}(Cl:K.W.Cl)(hA:AOk K.A K.d)(hE:EnvOk K.cx K.env)(hB:gw K.W K.B){D:Addr}(hD:VR K.W K.B K.ρ (.ref K.l) (.ref D)){B':BgT}{ρ':List Addr}{io':Raws}{o':Obj}{bB:Ls}{bU aP dM:Hp}{it':It}{dR:Shared}(f:CF K B' ρ' io' o' bB bU it' dR){x r:AV}{m:Nat}
  (h4:TE K.W K.d K.cx bB bU K.elt x aP)(h5:kR (.ref K.l) 0 [x] aP=some (r,dM))(h6:K.run m bB dM it'){G:Shared->Prop}(k:∀{s},CIt K m s->G s):
  wpAny K.W.M K.A (eval K.elt K.env) (λy mA=>wpAny K.W.M K.A (call (.builtin "list.append") [.ref D,y]) (λzz GI=>G GI) fh mA) fh dR:=
 h4.go hA (hB.mono f.g.b) hE (f.f.sub λp hp=>(aR.mp hp).elim (λe=>e ▸.head _) λhp=> .tail _ (bC _ hp)) f.R λJd AQ y mA yj Mb zz yR zE Kl=>
  lA (Bl (W:=K.W) (d:=K.d) Cl h5 K.A Jd AQ ((K.env.locals,o')::(io'++K.F)) mA [.ref D,y] hA Mb yR (.cons ((hD.mono f.g).mono yj) (.cons Kl .nil))) λzz GI z=>z.elim λUD z=>z.elim λR3 z=>k (.mk ((f.move yj yR zE).move z.1 z.2.1 z.2.2.1) h6)
def Dg{W:Wd}{A:Around}{α:Type}{t:Sem α}{Q Q':α->Shared->Prop}{E:Value->Shared->Prop}{s:Shared}(h:wpAny W.M A t Q fh s)(hq:∀a s,Q a s->Q' a s):wpAny W.M A t Q' E s:=dO h (λa s q=>hq a s q) λzz zy e=>e.elim
def u5(Cl:W.Cl)(ok:CXOk W cx)(hs:ScF cx sc pt){elt t src:Expr}{ifs:List Expr}{c:Option Expr}(hc:(ifs= []/\c=none)\/∃e,ifs= [e]/\c=some e){q:Bool}(hq:q=true->hW t=true){p0 pos:Pos}{use:Option (Value->Sem Unit)}{Q:Value->Shared->Prop}
  (hset:∀env x,fJ src env x=pure x)(hf:eW ls pt=true)(hsrc:ML W d cx ls H src q it au)(hr:CRun W d (cx.inner sc) t c elt au.length n ls (au++ [.list []]) it H')
  {A:Around}{B:BgT}{ρ:List Addr}{F:Raws}{env:Env}{s:Shared}(hA:AOk A d)(hB:gw W B)(hE:EnvOk cx env)(hF:pf W B ρ F env cx ls)(hR:RM W B ρ F H s.heap)
  (k:∀B' ρ' D C o m s',Grow B ρ B' ρ'->RM W B' ρ' ((C,o)::F) H' s'.heap->Rest s s'->VR W B' ρ' (.ref au.length) (.ref D)->vp o m->compPost W.M A fh use Q (.ref D) C (.ok .next) s'):
  wpAny W.M A (comprehension (.ListComp elt [⟨t,src,ifs,0⟩] sc pos) sc env p0 (newList []) false (eval src env) use) Q fh s:=by
 have Jx:∀{α:Type} {t:Sem α} {Q:α->Shared->Prop} {E:Value->Shared->Prop} {s:Shared},wpAny W.M A t Q fh s->wpAny W.M A t Q E s:=λh=>dO h (λzz zy q=>q) λzz zy e=>e.elim;refine wpAny_comprehension_free (g:=⟨t,src,ifs,0⟩) (gs:= []) rfl (hset env) (uq λx hx=>hE.cells x (hs.frees x hx)) hs.kind hs.names ?_;refine hsrc A B ρ F env s _ hA hB hE hF hR λb9 bu I io bA cj di bY cf hi=>?_;refine wpAny_newObj_type (hd:=by size_fits) (wpAny_newFunctionEnv hs.nocell (by intro y hy;simp at hy) (λuk hns hsb=>?_) hs.kind)
 try dsimp only at hns hsb |-
 have eJ:=bY.newList (vs:= []) (its:= []) .nil;generalize hH:bA.heap.push {cls:= .type "list",dict:=none,data:= .seq ([]:List Value).toArray}=i8 at hns hsb |-
 have PG:RM W b9 (bu++ [bA.heap.objs.size]) (io++F) (au++ [.list []]) i8:=by erw [<- hH];exact eJ
 have hn:i8.get? i8.objs.size=none:=bQ (ay _);refine gT hns λoO es ep e1 e2 e3 e4=>?_;have RZ:vp oO (λzz=>none):=(i7 es ep e2 e3 (λy=>(e4 y).trans rfl));have jH:RM W b9 (bu++ [bA.heap.objs.size]) ((i8.objs.size,oO)::(io++F)) (au++ [.list []]) uk:=by
  refine PG.allocF hn (λb x e=>?_) e1
  have hb:b≠i8.objs.size:=λz=>by rw[z,hn]at e;cases e
  exact(hsb.2 b hb).trans (cH _ e)
 have hl:=bY.len;have hD:VR W b9 (bu++ [bA.heap.objs.size]) (.ref au.length) (.ref bA.heap.objs.size):= .ref (by erw [<- hl];simp);have gg:Grow b9 bu b9 (bu++ [bA.heap.objs.size]):= .push b9 bu _;have Oo:pf W b9 (bu++ [bA.heap.objs.size]) ((i8.objs.size,oO)::F) (C4 sc i8.objs.size env) (cx.inner sc) ls:=CD hs hE ((hF.mono cj).mono gg) hf RZ;have hE':=CE hs hE i8.objs.size;have ok':=pP ok hs;show codeAny W.M A (.compStart _ 0 (.ref I) (.ref bA.heap.objs.size) (C4 sc i8.objs.size env)) _ _;have loop:codeAny W.M A (.compLoop (.ListComp elt [⟨t,src,ifs,0⟩] sc pos) 0 (.ref I) (.ref bA.heap.objs.size) (C4 sc i8.objs.size env)) (compPost W.M A fh use Q (.ref bA.heap.objs.size) i8.objs.size) {bA with heap:=uk,toks:=bA.toks+([]:List (Str×Value)).length}:=by
  let K:CK:=⟨W,d,cx.inner sc,t,c,elt,au.length,H',q,b9,bu++ [bA.heap.objs.size],I,F,s,C4 sc i8.objs.size env,A⟩
  have inv0:CIt K n {bA with heap:=uk,toks:=bA.toks+([]:List (Str×Value)).length}:= .mk (K:=K) ⟨.refl _ _,⟨cf.1,cf.2,cf.3⟩,hi.mono gg,jH,Oo⟩ hr
  have step:∀{m s'},CIt K m s'->wpAny W.M A (pyNext (.ref I)) (CR K (λs'=>compPost W.M A fh use Q (.ref bA.heap.objs.size) i8.objs.size (.ok .next) s') (CT K) m) fh s':=λh=>C2 (K:=K) hA hE' hq (fun{B' ρ' o' gG s'} g r R f=>by
   refine dY f λTJ m hm N zz=>?_
   refine aM (id R) λrs S C=>?_
   obtain rfl:=S.uniq hm (.head _)
   exact k B' ρ' _ _ _ m s' ((cj.trans gg).trans g) R r (hD.mono g) N) h
  rcases hc with⟨rfl,rfl⟩ | ⟨e,rfl,rfl⟩
  ·refine kcp_loop (CIt K) (λm s' hI=>Dg (step hI) λr Nt z=>?_) n inv0
   cases r using bf with
   | none=>exact z
   | some v=>
    refine Dg z λzz rJ z=>Dg z λzz dR z=>?_
    cases z using CT.casesOn with | mk hm f b=>?_
    cases b using CB.casesOn with
    | skip hc=>exact nomatch hc
    | all zz h2 a w=>exact Dg (yD (K:=K) Cl hA hE' di hD f h2 a w λz=>⟨_,hm ▸cJ _,z⟩) λzz zy z=>Dg z λzz zy z=>z
    | take hc=>exact nomatch hc
  ·refine kct_loop (CIt K) (λm s' hI=>Dg (step hI) λr Nt z=>?_) n inv0
   cases r using bf with
   | none=>exact z
   | some v=>
    refine Dg z λzz rJ z=>Dg z λzz dR z=>?_
    cases z using CT.casesOn with | mk hm f b=>?_
    have up:∀{io':Raws} {o':Obj},∀p∈(K.env.locals,o')::F,p∈(K.env.locals,o')::(io'++F):=λp hp=>(aR.mp hp).elim (λe=>e ▸.head _) λhp=> .tail _ (bC _ hp)
    cases b using CB.casesOn with
    | skip hc h w=>
     (replace hc:=af hc;subst hc)
     exact Dg (h.go hA (di.mono f.g.b) hE' (f.f.sub up) f.R λJd AQ mA yj Mb zz yR zE=>(⟨_,hm ▸cJ _, .mk (f.move yj yR zE) w⟩:∃m',m'<m/\CIt K m' mA)) λzz zy z=>z
    | all hc=>exact nomatch hc
    | take hc h h2 a w=>
     (replace hc:=af hc;subst hc)
     exact Dg (h.go hA (di.mono f.g.b) hE' (f.f.sub up) f.R λJd AQ mA yj Mb zz yR zE=>Dg (yD (K:=K) Cl hA hE' di hD (f.move yj yR zE) h2 a w λz=>⟨_,hm ▸cJ _,z⟩) λzz zy z=>Dg z λzz zy z=>z) λzz zy z=>z
 exact codeAny_compStart_list loop (Jx (Bk (q:=q) (it:=it) (io:=io) (F:=(i8.objs.size,oO)::F) (s:={bA with heap:=uk,toks:=_}) (hi.mono gg) (jH.perm lW.symm) loop))
end
end
mutual
def EL{c:Prop} [Decidable c]{a b x:α}{p:Prop}(h:(if c then a else b)=x)(k1:c->a=x->p)(k2:¬c->b=x->p):p:=by
 by_cases q:c
 ·exact k1 q ((if_pos q).symm.trans h)
 ·exact k2 q ((if_neg q).symm.trans h)
set_option tactic.hygienic true in
theorem ze{sc:Scope}{env:Env}(h:env.scope=sc)(hk:sc.kind= .function){ts vs:List Expr}{k:Nat}{p:Pos}{r:Option (List Str)}(hr:jr sc ts vs=some r):swappedStores [.Tuple ts k p] (.Tuple vs k' p') env=pure r:=by
 induction env using Env.casesOn
 subst h
 rename_i sc _ _ _ _ _ _ _ _
 induction sc using Scope.casesOn
 subst hk;refine EL hr (λq hr=>?_) λq hr=>?_
 ·erw [<- af hr];exact if_pos q
 refine(if_neg q).trans (EL hr (λq hr=>?_) λq hr=>?_)
 ·erw [<- af hr];exact if_pos q
 refine(if_neg q).trans (EL hr (λq hr=>?_) λq hr=>?_)
 ·erw [<- af hr];exact if_pos q
 refine(if_neg q).trans (EL hr (λq hr=>?_) λq hr=>?_)
 ·erw [<- af hr];exact if_pos q
 refine(if_neg q).trans (EL hr (λq hr=>?_) λq hr=>?_)
 ·exact dA hr
 ·erw [<- af hr];exact if_neg q
def so{cx:CX}{env:Env}(h:env.scope=cx.scope)(hk:cx.scope.kind= .function){ts vs:List Expr}{k:Nat}{p:Pos}{r:Option (List Str)}(hr:jr cx.scope ts vs=some r):swappedStores [.Tuple ts k p] (.Tuple vs k' p') env=pure r:=ze h hk hr
def ud{t e:Expr}{env:Env}(ht:∀ts k p,t= .Tuple ts k p->∀vs k' p',e≠ .Tuple vs k' p')(hl:∀es p,t≠ .List es p):swappedStores [t] e env=pure none:=by
 induction t using bE <;> first
  | rfl
  | exact absurd rfl (hl _ _)
  | (induction e using bE <;> first | rfl | exact absurd rfl (ht _ _ _ rfl _ _ _))
end
section
mutual
variable{t elt src:Expr}{is:List Nat}{ifs:List Expr}{c:Option Expr}{q:Bool}{it:It}{n:Nat}{vs:List AV}
variable{W:Wd}{d:Nat}{cx:CX}{ls bB pJ ls':Ls}{H H' au aP dM:Hp}{sc:Scope}{pt:PT}
def BV(Cl:W.Cl)(ok:CXOk W cx)(hs:ScF cx sc pt)(hc:(ifs= []/\c=none)\/∃e,ifs= [e]/\c=some e)(hq:q=true->hW t=true){pos:Pos}
  (hset:∀env x,fJ src env x=pure x)(hf:eW ls pt=true)(hsrc:ML W d cx ls H src q it au)(hr:CRun W d (cx.inner sc) t c elt au.length n ls (au++ [.list []]) it H'):TE W d cx ls H (.ListComp elt [⟨t,src,ifs,0⟩] sc pos) (.ref au.length) H':=by
 intro A B ρ F env s hA hB hE hF hR;refine u5 (Q:=PV W B ρ F s (.ref au.length) H') Cl ok hs hc hq hset hf hsrc hr hA hB hE hF hR λB' ρ' D C o m s' g R r hv N=>?_;refine aM (id R) λrs S CC=>?_;exact bI m (S.ns (.head _) N) (λh' hsb=>(d4 B' ρ' g (R.shed λb x hb e=>(hsb.2 b hb).trans e) (⟨r.1,r.2,r.3⟩) hv))
def BG(ht:cv t=true)(env:Env):(jE [t] env).map (·.2)= [assign t env]:=by
 rw[iO ht];rfl
def vl{e:Expr}{pos:Pos}{v:AV}(ht:cv t=true)(h:TE W d cx ls H e v au)(h':TA W d cx ls au t v ls' H')(hs:∀env,EnvOk cx env->swapsWith e (some t) pos.line env=pure false)(hw:∀env,EnvOk cx env->swappedStores [t] e env=pure none):TS W d cx ls H (.Assign [t] e pos) .next ls' H':=by
 intro A B ρ fr F env s hA hB hE hF hR;refine wpAny_Assign_stores (h.goS hA hB hE hF hR λb9 bu u bA cj di cR bY cf dZ=>?_) (hs env hE) (hw env hE);rw[BG ht];exact lA (h' A b9 bu fr F env bA u hA di hE cR bY dZ) λzz dR xq1=>gT xq1 λfZ d8 yp eE eJ fH jc=>(iR fZ d8 yp (cj.trans eE) eJ (cf.trans fH) jc .next)
def tY(Cl:W.Cl)(ok:CXOk W cx)(hs:ScF cx sc pt)(hc:(ifs= []/\c=none)\/∃e,ifs= [e]/\c=some e)(hq:q=true->hW t=true){i:Nat}{pos pos' xp:Pos}{x:Str}
  (hset:∀env x,fJ src env x=pure x)(hf:eW ls pt=true)(hsrc:ML W d cx ls H src q it au)(hr:CRun W d (cx.inner sc) t c elt au.length n ls (au++ [.list []]) it H')(hx:cx.slot x=some i)(hi:jh ls i (.ref au.length)=some ls'):TS W d cx ls H (.Assign [.Name x xp] (.ListComp elt [⟨t,src,ifs,0⟩] sc pos) pos') .next ls' H':=by
 intro A B ρ fr F env s hA hB hE hF hR;have hb:∃b,swapsWith (.ListComp elt [⟨t,src,ifs,0⟩] sc pos) (some (.Name x xp)) pos'.line env=pure b:=⟨_,rfl⟩;obtain⟨b,hb⟩:=hb
 cases b using aG with
 | false=>
  refine wpAny_Assign_stores (TE.goS (BV Cl ok hs hc hq hset hf hsrc hr) hA hB hE hF hR λb9 bu u bA cj di cR bY cf dZ=>?_) hb rfl;rw[BG (by rfl)];exact lA (wI ok hx hi A b9 bu fr F env bA u hA di hE cR bY dZ) λzz dR xq2=>gT xq2 λfZ d8 yp eE eJ fH jc=>(iR fZ d8 yp (cj.trans eE) eJ (cf.trans fH) jc .next)
 | true=>
  erw [exec_Assign_Name_used x xp _ pos' hb]
  refine aH (eh (aH ?_));show wpAny W.M A (do let _ <- comprehension (.ListComp elt [⟨t,src,ifs,0⟩] sc pos) sc env (firstIterPos [⟨t,src,ifs,0⟩] pos) (newList []) false (eval src env) (some (assign (.Name x xp) env))) _ _ _;refine aH ?_
  erw [ju hi]
  refine u5 (F:=fr++F) Cl ok hs hc hq hset hf hsrc hr hA hB hE hF.frm hR λB' ρ' D C o m s' g R r hv N=>?_;show wpAny W.M A (assign (.Name x xp) env (.ref D)) _ _ _;refine wpAny_assign_Name ((hF.mono g).store ok hE (R.front) (jt hx).2 hv λh' tk fr' f R'=>?_);refine aM (id R'.back) λrs S CC=>?_;exact bI m (S.ns (.head _) N) (λh'' hsb=>bK (bK (iR B' ρ' fr' g (R'.back.shed λb x hb e=>(hsb.2 b hb).trans e) (⟨r.1,r.2,r.3⟩) f .next)))
def vO{js:List Nat}{ws:List AV}:∀{ls:Ls},is.length=vs.length->fo ls (is++js) (vs++ws)=(fo ls is vs).bind λl=>fo l js ws:=by
 induction is generalizing vs with
 | nil=>intro ls h;cases vs using aw with
  | nil=>rfl
  | cons zz zy=>simp at h
 | cons i is ih=>intro ls h;cases vs using aw with
  | nil=>simp at h
  | cons v vs=>
   simp only[jl,fo];cases jh ls i v with
   | none=>rfl
   | some l=>exact ih (by simpa using h)
def qx:∀{vs:List AV} {ls ls':Ls},fo ls is vs=some ls'->is.length=vs.length/\ls'.length=ls.length:=by
 induction is with
 | nil=>intro vs ls ls' h;induction vs using aw <;> simp[fo]at h;exact⟨rfl,by erw [h];rfl⟩
 | cons i is ih=>
  intro vs ls ls' h
  cases vs using aw with
  | nil=>simp[fo]at h
  | cons v vs=>
   simp only[fo]at h;refine aM (cu.mp h) λLr h1 h2=>?_;have:=ih h2;have e:=ju h1;subst e;exact⟨by simp[this.1],by simpa using this.2⟩
def Cj(hn:is.Nodup):∀{vs:List AV} {ls ls':Ls},fo ls is vs=some ls'->fo ls is.reverse vs.reverse=some ls':=by
 induction is with
 | nil=>intro vs ls ls' h;induction vs using aw <;> simp[fo]at h |-;exact h
 | cons i is ih=>
  intro vs ls ls' h;have hl:=(qx h).1
  cases vs using aw with
  | nil=>simp at hl
  | cons v vs=>
   rw[bS]at hn;simp only[fo]at h;refine aM (cu.mp h) λLr h1 h2=>?_;have e1:=ju h1;have hlt:cg i ls.length=true:=by unfold jh at h1;split at h1;assumption;cases h1
   erw [oy,oy,(vO (by simpa using hl))]
   have:∃vX,fo ls is vs=some vX/\vX.set i (some v)=ls':=by
    have back:∀{is:List Nat} {vs:List AV} {ls l':Ls},i∉is->fo (ls.set i (some v)) is vs=some l'->∃vX,fo ls is vs=some vX/\vX.set i (some v)=l':=by
     intro is
     induction is with
     | nil=>intro vs ls l' zz h;induction vs using aw <;> simp[fo]at h |-;exact h
     | cons j is ih=>
      intro vs ls l' hn h
      simp only[aR,not_or]at hn
      cases vs using aw with
      | nil=>simp[fo]at h
      | cons w vs=>
       simp only[fo]at h |-
       refine aM (cu.mp h) λLr h1 h2=>?_
       have e1:=ju h1
       have q:cg j ls.length=true:=by unfold jh at h1;rw[iM]at h1;split at h1;assumption;cases h1
       have:jh ls j w=some (ls.set j (some w)):=by unfold jh;erw [q];rfl
       erw [this]
       rw[e1,List.set_comm _ _ hn.1]at h2
       exact ih hn.2 h2
    rw[e1]at h2
    exact back hn.1 h2
   refine aM this λvX h3 h4=>?_
   erw [ih hn.2 h3]
   simp only[Option.bind_some,fo];have hl2:=(qx h3).2;have:jh vX i v=some (vX.set i (some v)):=by unfold jh;erw [hl2,hlt];rfl
   erw [this,h4];rfl
def rg(ok:CXOk W cx):∀{ns:List Str} {is:List Nat} {vs:List AV} {us:List Value} {ls ls':Ls} {A:Around} {B:BgT} {ρ:List Addr} {fr F:Raws} {env:Env} {s:Shared},ns.map cx.slot=is.map some->fo ls is vs=some ls'->EnvOk cx env->j2 W B ρ fr env cx ls->RM W B ρ (fr++F) H s.heap->VRs W B ρ vs us->
  wpAny W.M A (gE (ns.map λn=>bindName env n) us) (λzz s'=>PS W B ρ F s env cx ls' H s') fh s
 | [],is,vs,us,ls,ls',A,B,ρ,fr,F,env,s,hm,h,hE,hF,hR,hv=>by
  cases is using aw with
  | nil=>
   induction vs using aw <;> simp[fo]at h
   subst h;exact bK (pS B ρ fr (.refl B ρ) hR (.refl s) hF)
  | cons zz zy=>simp at hm
 | n::ns,is,vs,us,ls,ls',A,B,ρ,fr,F,env,s,hm,h,hE,hF,hR,hv=>by
  cases is using aw with
  | nil=>simp at hm
  | cons i is=>
   rw[bp,bp]at hm
   injection hm with hm1 hm2
   cases vs using aw with
   | nil=>simp[fo]at h
   | cons v vs=>
    cases hv with
    | cons q qs=>
     simp only[fo]at h;refine aM (cu.mp h) λLr h1 h2=>?_
     erw [bp];rewrite [gE]
     refine aH (bX (wpAny_bindName (hF.store ok hE hR (jt hm1).2 q λh' tk fr' f R=>?_)));rw[<- ju h1]at f;exact lA (rg (s:={s with heap:=h',toks:=tk}) ok hm2 h2 hE f R qs) λzz s' xq3=>gT xq3 λB' ρ' fr'' g R' r f'=>(pS B' ρ' fr'' g R' (⟨r.1,r.2,r.3⟩) f')
def tX(ok:CXOk W cx){ts es:List Expr}{k k':Nat}{p p' pos:Pos}{ns:List Str}(hw:jr cx.scope ts es=some (some ns))(hm:ns.map cx.slot=is.map some)(hn:is.Nodup)(h:TE W d cx ls H (.Tuple es k' p') (.U vs) H')(hl:fo ls is vs=some ls'):TS W d cx ls H (.Assign [.Tuple ts k p] (.Tuple es k' p') pos) .next ls' H':=by
 intro A B ρ fr F env s hA hB hE hF hR
 erw [exec_Assign_arm]
 refine aH (eh ?_);refine aH (wpAny_of_eq (a:=false) rfl ?_)
 erw [(if_neg (by decide))]
 refine aH (h.goS hA hB hE hF hR λb9 bu u bA cj di cR bY cf dZ=>?_)
 erw [so hE.scope hE.kind hw]
 refine aH (bK ?_);show wpAny W.M A (do rule "assign.swapped-stores";let items <- unpackItems u ns.length none;gE (ns.reverse.map λn=>bindName env n) items.reverse;pure Flow.next) _ _ _;have e1:ns.length=is.length:=by have:=congrArg jf hm;simpa using this
 have e2:=(qx hl).1;refine aH (wpAny_rule ?_)
 erw [e1,e2]
 refine aH (qG (.inl (bI vs rfl rfl)) hA bY dZ λus h' tk R hus=>?_);refine aH (lA (rg (s:={bA with heap:=h',toks:=tk}) ok (ns:=ns.reverse) (is:=is.reverse) (by erw [jk,jk,hm];rfl) (Cj hn hl) hE cR R hus.reverse) λzz dR xq4=>gT xq4 λfZ d8 yp eE eJ fH jc=>bK ?_);exact iR fZ d8 yp (cj.trans eE) eJ (⟨fH.1.trans cf.1,fH.2.trans cf.2,fH.3.trans cf.3⟩) jc .next
end
end
mutual
def uO{p:Str×α}{l:List (Str×α)}:(p::l).lookup p.1=some p.2:=by
 show(match p.1==p.1 with | true=>some p.2 | false=>l.lookup p.1)=_
 erw [beq_self_eq_true];rfl
def qI{x:Str}{p:Str×α}{l:List (Str×α)}(h:x≠p.1):(p::l).lookup x=l.lookup x:=by
 show(match x==p.1 with | true=>some p.2 | false=>l.lookup x)=_
 erw [beq_eq_false_iff_ne.mpr h];rfl
def ja{x:Str}{l:List (Str×α)}:x∉l.map (·.1)->l.lookup x=none:=by
 induction l with
 | nil=>exact λzz=>rfl
 | cons p l ih=>
  intro h
  erw [(qI (λe=>h (by erw [e];exact .head _)))];exact ih (λm=>h (.tail _ m))
def s9{x:Str}{l:List (Str×α)}:x∈l.map (·.1)->(l.lookup x).isSome=true:=by
 induction l with
 | nil=>exact λh=>nomatch h
 | cons p l ih=>
  intro h;by_cases e:x=p.1
  ·subst e;erw [uO];rfl
  ·erw [qI e];exact ih ((aR.mp h).resolve_left e)
def kW{x:Str}{v:α}{l:List (Str×α)}:(l.map (·.1)).Nodup->(x,v)∈l->l.lookup x=some v:=by
 induction l with
 | nil=>exact λzz h=>nomatch h
 | cons p l ih=>
  intro hn h;have hn:=bS.mp hn;rcases aR.mp h with q | q
  ·subst q;exact uO (p:=(x,v))
  ·erw [(qI (λe=>hn.1 (cN.mpr (bI _ q e))))];exact ih hn.2 q
def EJ(ns:List Str):∀us:List α,(ns.zip us).map (·.1)=ns.take us.length:=by
 induction ns with
 | nil=>intro us;erw [List.take_nil];rfl
 | cons n ns ih=>exact λus=>us.casesOn rfl λu us=>congrArg (n::·) (ih us)
def kH{ns:List Str}{vs:List α}(h:vs.length=ns.length):(ns.zip vs).map (·.1)=ns:=by
 erw [EJ,h,qn];rfl
def um{l:List (Str×α)}{ns:List Str}:∀{vs:List α},vs.length=ns.length->(∀x v,(x,v)∈ns.zip vs->l.lookup x=some v)->ns.filterMap (λn=>(l.lookup n).map (n,·))=ns.zip vs:=by
 induction ns with
 | nil=>exact λzz zy=>rfl
 | cons n ns ih=>
  intro vs h g
  cases vs using aw with
  | nil=>exact nomatch h
  | cons v vs=>
   erw [List.filterMap_cons,g n v (.head _)]
   exact congrArg (_::·) (ih (q6 h) λx w hm=>g x w (.tail _ hm))
abbrev uZ(p:Str×Value)(l:List (Str×Value)):Sem (ForInStep (List (Str×Value))):=
 if(l.lookup p.1).isNone=true then pure (.yield (l++ [(p.1,p.2)]))else pure (.yield l)
def QZ{B:List Str}:∀{dvs U:List Value} {L:List (Str×Value)},dvs.length=B.length->U.length<=B.length->(L.map (·.1)++B).Nodup->
  (forIn (B.zip dvs) (L++B.zip U) uZ:Sem _)=pure (L++B.zip (U++dvs.drop U.length)):=by
 induction B with
 | nil=>exact λzz zy zx=>rfl
 | cons b B ih=>
  intro dvs U L h1 h2 h3
  cases dvs using aw with
  | nil=>exact nomatch h1
  | cons v dvs=>
   have go:∀(w:Value) (U':List Value),U'.length<=B.length->uZ (b,v) (L++(b::B).zip U)=pure (.yield ((L++ [(b,w)])++B.zip U'))->U++(v::dvs).drop U.length=w::(U'++dvs.drop U'.length)->
     (forIn ((b,v)::B.zip dvs) (L++(b::B).zip U) uZ:Sem _)=pure (L++(b::B).zip (U++(v::dvs).drop U.length)):=λw U' q e1 e2=>by
    erw [List.forIn_cons,e1,e2,pure_bind]
    refine(ih (q6 h1) q ?_).trans (congrArg pure (aB ..))
    erw [bc,aB];exact h3
   cases U using aw with
   | nil=>
    refine go v [] (aY _) ?_ rfl;have n:L.lookup b=none:=ja λm=>(fb.mp h3).2.2 _ m _ (.head _) rfl;show uZ (b,v) (L++ [])=_
    erw [List.zip_nil_right,br,br]
    exact if_pos (by erw [n];rfl)
   | cons u U=>
    refine go u U (Nat.le_of_succ_le_succ h2) ?_ rfl
    erw [aB]
    exact if_neg λe=>by
     have:=s9 (x:=b) (l:=L++(b,u)::B.zip U) (cN.mpr (bI ((b,u)) (bC _ (.head _)) rfl))
     exact nomatch (congrArg Option.isSome (jq.mp e)).symm.trans this
end
section
mutual
variable{α:Type}{M:Model}{A:Around}{Q:α->Shared->Prop}{E:Value->Shared->Prop}{s:Shared}
def y6{c:Prop} [Decidable c]{a b:Sem α}(h:¬c)(k:wpAny M A b Q E s):wpAny M A (if c then a else b) Q E s:=(if_neg h).symm ▸k
def y7{β:Type}{t:Sem β}{f:β->Sem α}{x:β}(e:t=pure x)(k:wpAny M A (f x) Q E s):wpAny M A (t >>=f) Q E s:=e ▸k
end
end
mutual
def O5{a n d:Nat}(h:d<=n):a+d-n=a-(n-d):=(Nat.sub_sub_right a h).symm
def JV{a b d:Nat}(h:d=b):(a+b)-d=a:=h ▸wN ..
def O6{a b d:Nat}(h:d=b):d-(a+b)=0:=h ▸rP (eF ..)
def IA{M:Model}{A:Around}{E:Value->Shared->Prop}{f:Value}{s:Shared}(hd:(f= .none/\dvs= [])\/∃T o n,f= .ref T/\s.heap.get? T=some o/\o.data= .seq dvs.toArray n)
  {Q':Option (Array Value)->Shared->Prop}(hQ:∀x,(x.getD #[]).toList=dvs->Q' x s):wpAny M A (seqItems? f) Q' E s:=by
 rcases hd with⟨e1,e2⟩ | ⟨T,o,n,e1,e2,e3⟩
 ·erw [e1]
  exact aH (bK (bK (hQ none (by erw [e2];rfl))))
 ·erw [e1]
  exact wpAny_seqItems e2 e3 (hQ _ rfl)
end
section
mutual
variable{X Y:List Str}{U V D:List Value}
def IJ(h1:U.length=X.length)(h2:D.length=Y.length){n:Str}(hm:n∈(X++Y).take ((X++Y).length-D.length)):(((X++Y).zip (U++V)).lookup n).isNone=false:=by
 rw[ag,JV h2,List.take_left]at hm
 erw [Dd h1.symm];rewrite [Option.isNone_eq_false_iff]
 exact s9 (by erw [bc,kH h1];exact cU _ hm)
def BQ(h2:D.length=Y.length):D.drop (D.length-(X++Y).length)=D:=by erw [ag,O6 h2];rfl
def IL(hn:(X++Y).Nodup)(h1:U.length=X.length)(h2:D.length=Y.length)(h3:V.length<=Y.length):
  (forIn (((X++Y).drop ((X++Y).length-D.length)).zip D) ((X++Y).zip (U++V)) uZ:Sem _)=pure (X.zip U++Y.zip (V++D.drop V.length)):=by
 erw [ag,JV h2,List.drop_left,Dd h1.symm]
 exact QZ h2 h3 (by erw [kH h1];exact hn)
def Md(hn:(X++Y).Nodup)(h1:U.length=X.length)(h2:D.length=Y.length)(h3:V.length<=Y.length):
  (X++Y).filterMap (λn=>((X.zip U++Y.zip (V++D.drop V.length)).lookup n).map (n,·))=(X++Y).zip (U++(V++D.drop V.length)):=by
 have hlen:(V++D.drop V.length).length=Y.length:=by erw [ag,d7,h2];exact Nat.add_sub_cancel' h3
 have hfull:(U++(V++D.drop V.length)).length=(X++Y).length:=by erw [ag,hlen,h1,ag];rfl
 erw [<- Dd h1.symm]
 exact um hfull λx v hm=>kW (by erw [kH hfull];exact hn) hm
end
end
mutual
def AB{a1 a2:Str}{ar:List Arg}{kd:List (Option Expr)}{df:List Expr}{a4:FuncBody}{a5:Scope}{a6:Addr}{a7:List (Str×Addr)}{a8 a9 a10 a11:Value}{a12:Option Addr}{a13 a14:Value}{a15:Addr}
  {dvs:List Value}{s:Shared}{X Y:List Str}{U V:List Value}(hns:ar.map (·.arg)=X++Y)(hn:(X++Y).Nodup)
  (hd:(a8= .none/\dvs= [])\/∃T o n,a8= .ref T/\s.heap.get? T=some o/\o.data= .seq dvs.toArray n)
  (h1:U.length=X.length)(h2:dvs.length=Y.length)(h3:V.length<=Y.length):
  BindsTo s ⟨a1,a2,⟨[],ar,none,[],kd,none,df⟩,a4,a5,a6,a7,a8,a9,a10,a11,a12,a13,a14,a15⟩ ⟨U++V,[]⟩ ((X++Y).zip (U++(V++dvs.drop V.length))):=by
 intro M A E Q hq;refine y7 rfl (aH (IA hd λx hx=>?_));clear hd;subst hx;refine y6 (λe=>?_) (y6 (λe=>?_) (y7 (x:=X.zip U++Y.zip (V++(x.getD #[]).toList.drop V.length)) ?_ (y7 rfl (y6 (λe=>nomatch e) ?_))))
 ·have e:=of_decide_eq_true (ae.mp e).1;refine iA.mpr (?_:(U++V).length<=(ar.map (·.arg)).length) e
  erw [hns,ag,ag,h1]
  exact mP h3 _
 ·refine absurd e (?_:¬ (!(((ar.map (·.arg)).take ((ar.map (·.arg)).length-((x.getD #[]).toList.drop ((x.getD #[]).toList.length-(ar.map (·.arg)).length)).length)).filter λn=>(((ar.map (·.arg)).zip (U++V)).lookup n).isNone).isEmpty)=true)
  erw [hns,BQ h2,(List.filter_eq_nil_iff.mpr λn hm e=>nH ((IJ h1 h2 hm).symm.trans e))]
  exact nH
 ·refine(?_:(forIn (((ar.map (·.arg)).drop ((ar.map (·.arg)).length-((x.getD #[]).toList.drop ((x.getD #[]).toList.length-(ar.map (·.arg)).length)).length)).zip ((x.getD #[]).toList.drop ((x.getD #[]).toList.length-(ar.map (·.arg)).length))) ((ar.map (·.arg)).zip (U++V)) uZ:Sem _)=_)
  erw [hns,BQ h2]
  exact IL hn h1 h2 h3
 ·refine bK ((?_:(List.map (λy:Arg=>y.arg) ar++([]:List Str)).filterMap (λn=>((X.zip U++Y.zip (V++(x.getD #[]).toList.drop V.length)).lookup n).map (n,·))=_) ▸hq)
  erw [hns,br]
  exact Md hn h1 h2 h3
def G8{p:Arguments}(hp:kh p=true):p=⟨[],p.args,none,[],p.kw_defaults,none,p.defaults⟩:=by
 cases p using Arguments.casesOn with | mk po ar va ko kd kw df=>?_
 obtain⟨hp,p4⟩:=ae.mp hp;obtain⟨hp,p3⟩:=ae.mp hp;obtain⟨p1,p2⟩:=ae.mp hp;obtain rfl:=AO.mp p1;obtain rfl:=jq.mp p2;obtain rfl:=AO.mp p3;obtain rfl:=jq.mp p4;rfl
def wA{fd:FuncData}{us:List Value}{s:Shared}(hp:kh fd.params=true)(hn:(fd.params.args.map (·.arg)).Nodup)(hd:(fd.defaults= .none/\dvs= [])\/∃T o n,fd.defaults= .ref T/\s.heap.get? T=some o/\o.data= .seq dvs.toArray n)
  (h1:us.length<=(fd.params.args.map (·.arg)).length)(h2:dvs.length<=(fd.params.args.map (·.arg)).length)(h3:(fd.params.args.map (·.arg)).length<=us.length+dvs.length):
  BindsTo s fd ⟨us,[]⟩ ((fd.params.args.map (·.arg)).zip (us++dvs.drop (us.length+dvs.length-(fd.params.args.map (·.arg)).length))):=by
 have e:=G8 hp;clear hp;generalize hns:fd.params.args.map (·.arg)=ns at *;have a1:ns.length-dvs.length<=us.length:=Nat.sub_le_iff_le_add.mpr h3;have h:=AB (a1:=fd.name) (a2:=fd.qualname) (ar:=fd.params.args) (kd:=fd.params.kw_defaults) (df:=fd.params.defaults) (a4:=fd.body) (a5:=fd.scope) (a6:=fd.globals) (a7:=fd.closure) (a9:=fd.kwdefaults) (a10:=fd.doc)
  (a11:=fd.pyModule) (a12:=fd.annotations) (a13:=fd.code) (a14:=fd.closureTuple) (a15:=fd.builtins) (X:=ns.take (ns.length-dvs.length)) (Y:=ns.drop (ns.length-dvs.length)) (U:=us.take (ns.length-dvs.length)) (V:=us.drop (ns.length-dvs.length))
  (hns.trans (iS ..).symm) (by erw [iS];exact hn) hd
  (by erw [lY,lY,iK a1,iK (wK ..)];rfl) (by erw [d7,Nat.sub_sub_self h2];rfl)
  (by erw [d7,d7];exact t7 h1 _);rw[<- e,<- aB,iS,iS,d7,<- O5 h2]at h;exact h
abbrev Ct(ps:List Str)(sc:Scope):List Str:=ps++(sc.names.filter fun(x,k)=>(k== .local || k== .cell) && !ps.contains x).map (·.1)
abbrev yu(glob:List (Str×Gv))(nm:List Str)(ps:List Str)(sc:Scope):CX:=
 {scope:=sc,slots:=(Ct ps sc).zip (cS (Ct ps sc).length),nxt:=(Ct ps sc).length,glob,nm}
structure FnOk(W:Wd)(a:Addr)(F:Fn)(fd:FuncData)(body:List Stmt):Prop where
 obj:∃oc od osl,W.K.lookup a=some ⟨oc,od, .func fd,osl⟩
 bod:fd.body= .stmts body
 dl:F.dfl.length<=F.np
 clo:fd.closure= []
 glo:fd.globals=mainGlobals
 bui:fd.builtins=builtinsNs
 code:codeIn W.K fd.code fd.qualname=true
 par:kh fd.params=true
 sc:rY (fd.params.args.map (·.arg)) fd.scope=true
 dfl:(fd.defaults= .none/\F.dfl= [])\/∃T oT its n,fd.defaults= .ref T/\W.K.lookup T=some oT/\oT.data= .seq its n/\oW W.oa its.toList=some F.dfl
 fn:F=Av W.glob W.nm fd.params F.dfl fd.scope body
def u6(F:Fn){glob:List (Str×Gv)}{nm:List Str}{p:Arguments}{dfl:List AV}{sc:Scope}{body:List Stmt}(h:F=Av glob nm p dfl sc body):
  F.np=(p.args.map (·.arg)).length/\F.nl=(Ct (p.args.map (·.arg)) sc).length+2/\F.body=body.map (ke 40 (yu glob nm (p.args.map (·.arg)) sc)):=by
 subst h;exact eD rfl rfl rfl
end
section
mutual
variable{W:Wd}{B:BgT}{ρ:List Addr}
def Aq{v:Value}{x:AV}(h:BM W.oa v=some x):VR W B ρ x v:=by
 cases v using gP with
 | none=>erw [<- af h];exact .none
 | bool b=>erw [<- af h];exact .bool
 | int i t=>erw [<- af h];exact .int
 | str s t=>
  erw [<- af h]
  have:=VR.str (W:=W) (B:=B) (ρ:=ρ) (s:=s.cps.toList) (t:=t);rwa [gZ]at this
 | ref a=>
  refine aM (bL.mp h) λi hi e=>?_
  erw [<- e]
  refine .obj ?_;refine aM (List.findIdx?_eq_some_iff_getElem.mp hi) λhlt h2 zz=>?_
  erw [bq hlt,beq_iff_eq.mp h2];rfl
 | _=>exact dA h
def yA{vs:List Value}:∀{xs:List AV},oW W.oa vs=some xs->VRs W B ρ xs vs:=by
 induction vs with
 | nil=>intro xs h;erw [<- af h];exact .nil
 | cons v vs ih=>
  intro xs h;have h:(match BM W.oa v,oW W.oa vs with | some x,some y=>some (x::y) | _,_=>none)=some xs:=h;cases e1:BM W.oa v with
  | none=>rw[e1]at h;exact dA h
  | some x=>cases e2:oW W.oa vs with
   | none=>rw[e1,e2]at h;exact dA h
   | some y=>rw[e1,e2]at h;erw [<- af h];exact .cons (Aq e1) (ih e2)
end
end
mutual
def ve{kd:Str->Option NameKind}{x:Str}(hk:kd x=some .local):∀(bs:List (Str×Value)) (m:Str->Option Value),(bs.map (·.1)).Nodup->bindL kd bs m x=(match bs.lookup x with | some v=>some v | none=>m x)
 | [],m,_=>rfl
 | (n,v)::r,m,hn=>by
  simp only[bp,bS]at hn;unfold bindL
  erw [ve hk r _ hn.2]
  simp only[gc];by_cases e:x=n
  ·subst e
   erw [ja hn.1]
   simp[hk]
  ·have e':(x==n)=false:=by simpa using e
   erw [e']
   cases r.lookup x with
   | some zz=>rfl
   | none=>try dsimp only;split <;> simp[e]
def vf{kd:Str->Option NameKind}{x:Str}(hk:kd x=some .cell):∀(bs:List (Str×Value)) (m:Str->Option Value),(bs.map (·.1)).Nodup->bindC kd bs m x=(match bs.lookup x with | some v=>some v | none=>m x)
 | [],m,_=>rfl
 | (n,v)::r,m,hn=>by
  simp only[bp,bS]at hn;unfold bindC
  erw [vf hk r _ hn.2]
  simp only[gc];by_cases e:x=n
  ·subst e
   erw [ja hn.1]
   simp[hk]
  ·have e':(x==n)=false:=by simpa using e
   erw [e']
   cases r.lookup x with
   | some zz=>rfl
   | none=>try dsimp only;split <;> simp[e]
def j1:∀(names:List (Str×NameKind)) (n:Nat) (acc:List (Str×Addr)),(names.map (·.1)).Nodup->(acc.map (·.1)).Nodup->(∀x∈acc.map (·.1),x∉names.map (·.1))->((cellsFrom n names acc).map (·.1)).Nodup
 | [],n,acc,_,h,_=>h
 | (y,k)::r,n,acc,hn,ha,hd=>by
  simp only[bp,bS]at hn;unfold cellsFrom
  split
  ·refine j1 r _ _ hn.2 ?_ ?_
   ·simp only[bp,bS];exact⟨λq=>hd y q (by simp),ha⟩
   ·intro x hx;simp only[bp,aR]at hx;rcases hx with rfl | hx
    ·exact hn.1
    ·exact λq=>hd x hx (by simp only[bp,aR];exact .inr q)
  ·exact j1 r _ _ hn.2 ha λx hx q=>hd x hx (by simp only[bp,aR];exact .inr q)
def St.allocMany{B:BgT}{F:Raws}{h':Heap}(S:St B F rs h)(k:∀b x,h.get? b=some x->h'.get? b=some x):∀(l:Raws),(∀p∈l,h.get? p.1=none/\h'.get? p.1=some p.2)->(l.map (·.1)).Nodup->St B (l++F) rs h'
 | [],_,_=>S.ext k
 | (a,o)::l,hl,hn=>by
  simp only[bp,bS]at hn;have S':=St.allocMany S k l (λp hp=>hl p (.tail _ hp)) hn.2;have ha:=hl (a,o) (.head _);refine kI (S.free ha.1) λn1 n2 n3=>?_;refine⟨S'.keep,λp hp=>?_,λp hp=>(eD ((S'.got p hp).1) ((S'.got p hp).2.1) ?_),S'.nod,?_⟩
  ·rcases aR.mp hp with rfl | hp
   ·exact⟨ha.2,n1⟩
   ·exact S'.frm p hp
  ·show p.1∉(a::(l++F).map (·.1));rw[aR,not_or];exact⟨λq=>n3 (qH hp q),(S'.got p hp).2.2⟩
  ·show(a::(l++F).map (·.1)).Nodup;refine bS.mpr ⟨?_,S'.nodF⟩
   erw [bc];rewrite [dz,not_or]
   exact⟨hn.1,n2⟩
def mI{sc:Scope}(h:rY ps sc=true):sc.kind= .function/\sc.isCoroutine=false/\sc.isGenerator=false/\(∀x∈sc.names,sc.names.lookup x.1=some x.2)/\(sc.names.map (·.1)).Nodup/\(∀x∈sc.names,(x.2 != .free)=true)/\ps.Nodup/\∀p∈ps,sc.names.lookup p=some .local\/sc.names.lookup p=some .cell:=by
 obtain⟨h,h8⟩:=ae.mp h;obtain⟨h,h7⟩:=ae.mp h;obtain⟨h,h6⟩:=ae.mp h;obtain⟨h,h5⟩:=ae.mp h;obtain⟨h,h4⟩:=ae.mp h;obtain⟨h,h3⟩:=ae.mp h;obtain⟨h1,h2⟩:=ae.mp h;exact QL (beq_iff_eq.mp h1) ((gM _).mp h2) ((gM _).mp h3) (λx m=>beq_iff_eq.mp (aT.mp h4 x m)) (of_decide_eq_true h5) (λx m=>aT.mp h6 x m) (of_decide_eq_true h7) (λx m=>(jK.mp (aT.mp h8 x m)).imp beq_iff_eq.mp beq_iff_eq.mp)
def En{sc:Scope}(h:rY ps sc=true){x:Str}{i:Nat}(hi:(Ct ps sc)[i]? =some x):(sc.names.lookup x=some .local\/sc.names.lookup x=some .cell)/\(i<ps.length/\ps[i]? =some x\/ps.length<=i/\x∉ps):=by
 refine Ng (mI h) λzz zy zx h4 zw zv zu h8=>?_;unfold Ct at hi;by_cases hlt:i<ps.length
 ·rw[dm hlt]at hi;exact⟨h8 x (bN hi), .inl ⟨hlt,hi⟩⟩
 ·rw[dg (by exact iA.mp hlt)]at hi;have hm:=bN hi;refine aM (cN.mp hm) λxq1 hy xq2=>?_;obtain⟨y,k⟩:=xq1;subst xq2;obtain⟨hy1,hy2⟩:=List.mem_filter.mp hy;have hk:=h4 _ hy1;simp only[cw,Bool.or_eq_true,beq_iff_eq,gM,List.contains_eq_mem,decide_eq_false_iff_not]at hy2
  try dsimp only at hk
  refine⟨?_, .inr ⟨by exact iA.mp hlt,hy2.2⟩⟩;rcases hy2.1 with e | e
  ·subst e;exact .inl hk
  ·subst e;exact .inr hk
def nK{ns:List Str}{x:Str}{i:Nat}(h:(ns.zip (cS ns.length)).lookup x=some i):i<ns.length/\ns[i]? =some x:=by
 rw[List.range_eq_range']at h;have:=oP h;exact⟨by exact(bF bh az [(bh,aK (aI 0) az)] aS this.2.1),by simpa using this.2.2⟩
def Ib(W:Wd)(ps:List Str)(sc:Scope):CXOk W (yu W.glob W.nm ps sc):=by
 refine⟨rfl,rfl,λx y i hx hy=>?_,λx i hx=>(nK hx).1⟩;have h1:=(nK hx).2;have h2:=(nK hy).2;rw[h1]at h2;exact af h2
end
section
mutual
variable{vs args:List AV}{a n:Nat}{fd:FuncData}{body:List Stmt}{B:BgT}{ls':Ls}{ρ:List Addr}{v:AV}
variable{W:Wd}{d:Nat}{H H':Hp}
def T5{D:Nat}(h:n=a+(D-(D-(n-a)))):a<=n:=by exact(gn ai az [(aK ai bH,az)] aS (lz h))
def TZ{D:Nat}(h:n=a+(D-(D-(n-a)))):n<=a+D:=by exact(gV ai (aK az bH) [(ai,aK az cQ),(cQ,bH)] aS (pK h) (wK _ _))
def TY{D:Nat}(h:a<=n)(h2:n<=a+D)(h3:D<=n):a+D-n=D-(n-a):=by erw [Nat.sub_sub_right _ h,dq];rfl
def Ax{a:Addr}{F:Fn}(ok:FnOk W a F fd body)(hvs:vs=args++F.dfl.drop (F.dfl.length-(F.np-args.length)))(hl:vs.length=F.np){s:Shared}{us:List Value}(X:W.K.In s.heap)(hus:VRs W B ρ args us){p:Prop}
  (k:∀ws:List Value,ws.length=(fd.params.args.map (·.arg)).length->BindsTo s fd ⟨us,[]⟩ ((fd.params.args.map (·.arg)).zip ws)->VRs W B ρ vs ws->p):p:=by
 obtain⟨dvs,hd1,hd2⟩:∃dvs:List Value,((fd.defaults= .none/\dvs= [])\/∃T o n,fd.defaults= .ref T/\s.heap.get? T=some o/\o.data= .seq dvs.toArray n)/\VRs W B ρ F.dfl dvs:=by
  rcases ok.dfl with⟨e1,e2⟩ | ⟨T,oT,its,n,e1,e2,e3,e4⟩
  ·exact bI ([]) (.inl ⟨e1,rfl⟩) (by erw [e2];exact .nil)
  ·exact bI its.toList (.inr ⟨T,oT,n,e1,X _ _ e2,by erw [e3];rfl⟩) (yA e4)
 have hnp:=(u6 F ok.fn).1;have e:F.np=args.length+(F.dfl.length-(F.dfl.length-(F.np-args.length))):=hl.symm.trans ((congrArg jf hvs).trans (ag.trans (congrArg (args.length+ ·) d7)));have l1:=T5 e;have l2:=TZ e;have hu:=hus.length;have hd:=hd2.length;have bt:=wA (fd:=fd) (us:=us) (dvs:=dvs) (s:=s) ok.par (mI ok.sc).2.2.2.2.2.2.1 hd1 (by erw [hu,<- hnp];exact l1) (by erw [hd,<- hnp];exact ok.dl) (by erw [hu,hd,<- hnp];exact l2);rw[hu,hd,<- hnp,TY l1 l2 ok.dl]at bt;have hall:VRs W B ρ vs (us++dvs.drop (F.dfl.length-(F.np-args.length))):=by erw [hvs];exact hus.append (hd2.drop _)
 exact k _ (hall.length.trans (hl.trans hnp)) bt hall
def FD{ps:List Str}{ws:List Value}{y:Str}{i m:Nat}(hwl:ws.length=ps.length)(hn:ps.Nodup)(hall:VRs W B ρ vs ws)(hcase:(i<ps.length/\ps[i]? =some y)\/(ps.length<=i/\y∉ps)):
  ∃v:Option Value,(match (ps.zip ws).lookup y with | some w=>some w | none=>none)=v/\∀av,(vs.map some++cD m none)[i]? =some (some av)->∃u,v=some u/\VR W B ρ av u:=by
 have hvl:(vs.map some).length=ps.length:=(aL _).trans (hall.length.symm.trans hwl);rcases hcase with⟨hlt,hp⟩ | ⟨hge,hp⟩
 ·have hiw:i<ws.length:=hwl.symm ▸hlt;have hlk:(ps.zip ws).lookup y=some ws[i]:=kW (by erw [kH hwl];exact hn) (List.mem_iff_getElem?.mpr ⟨i,List.getElem?_zip_eq_some.mpr ⟨hp,bq hiw⟩⟩);refine bI (some ws[i]) (by erw [hlk];rfl) (λav hav=>(bI _ rfl ?_));rw[dm (hvl.symm ▸hlt),ey]at hav;refine aM (bL.mp hav) λav' h1 h2=>?_;refine aM (hall.get h1) λu hu hr=>?_;rw[bq hiw]at hu
  erw [af hu,<- af h2];exact hr
 ·refine bI none (by erw [(ja (by erw [kH hwl];exact hp))];rfl) (λav hav=>?_);rw[dg (hvl.symm ▸hge)]at hav;exact nomatch (List.mem_replicate.mp (bN hav)).2
def C3{d:Nat}(h:a+1+2*d<=960):a+1<=recursionLimit:=aj (aj (bw _ _) h) (ab rfl)
def u9(W1:W.Top){a:Addr}{F:Fn}(ok:FnOk W a F fd body)(hvs:vs=args++F.dfl.drop (F.dfl.length-(F.np-args.length)))(hl:vs.length=F.np){fl:Fl}
  (hb:vm W d (yu W.glob W.nm (fd.params.args.map (·.arg)) fd.scope) (vs.map some++cD (F.nl-F.np) none) H body fl ls' H')(hv:fl= .ret v\/(fl= .next/\v= .none))
  {A:Around}{B:BgT}{ρ:List Addr}{AP:Raws}{s:Shared}{us:List Value}{R:Result->Shared->Prop}(hh:A.handled=none)(hdp:A.depth+1+2*d<=960)(hun:A.units+3+16*d<=9000)(hB:gw W B)(hR:RM W B ρ AP H s.heap)(hus:VRs W B ρ args us)
  (hq:∀u s',PV W B ρ AP s v H' u s'->R (.ok (.ret u)) s'):codeAny W.M A (.call (.ref a) ⟨us,[]⟩) R s:=by
 have X:=W1.K (hR.base hB);refine ub (ok.obj) λoc od osl hK=>?_;refine Ax ok hvs hl X hus λws hwl bt hall=>?_;refine Ng (mI ok.sc) λc1 c2 c3 zz c5 c6 c7 c8=>?_;generalize hps:fd.params.args.map (·.arg)=ps at *;have hbn:((ps.zip ws).map (·.1)).Nodup:=by erw [kH hwl];exact c7
 have hkind:∀x∈ps.zip ws,fd.scope.names.lookup x.1=some .local\/(fd.scope.names.lookup x.1=some .cell/\((cellsFrom (s.heap.objs.size+1) fd.scope.names []).lookup x.1).isSome=true):=by
  intro x hx
  have hm:x.1∈ps:=by have:=jJ (f:=(·.1)) hx;rwa [kH hwl]at this
  rcases c8 _ hm with e | e
  ·exact .inl e
  ·exact .inr ⟨e,cellsFrom_some _ _ _ (.inl e)⟩
 refine codeAny_call_function (hroom:=C3 hdp) (X _ _ hK) rfl c2 c3 ok.bod (codeRec_of X ok.code) (bt W.M A.in1 _ _ ?_)
 erw [ok.clo]
 refine wpAny_newFunctionEnv_cells c1 hkind λenv he bA x=>?_;refine⟨(W1.T.nolimit.keeps (hR.base hB)).keeps x.toInCall.keep,codeAny_func ?_⟩;have henv:env=callEnvC fd s.heap.objs.size a:=he;have el:env.locals=s.heap.objs.size:=by erw [henv];rfl
 have ec:env.cells=cellsFrom (s.heap.objs.size+1) fd.scope.names []:=by erw [henv];rfl
 have es:env.scope=fd.scope:=by erw [henv];rfl
 have ek:env.kindOf=λn=>fd.scope.names.lookup n:=by funext n;unfold Env.kindOf;erw [es];rfl
 refine gT (x.toInCall.ns) λoL eL epL g1 g2 g3 g4=>?_;have cn:(env.cells.map (·.1)).Nodup:=by erw [ec];exact j1 _ _ _ c5 List.nodup_nil (λzz h=>by simp at h)
 have cget:∀n c,(n,c)∈env.cells->∃o,bA.heap.get? c=some o/\o.data= .cell (bindC env.kindOf (ps.zip ws) (λzz=>none) n):=λn c h=>x.cell n c (kW cn h);let fr:Raws:=(env.locals,oL)::env.cells.map λp=>(p.2,(bA.heap.get? p.2).getD oL);have hfr:∀p∈fr,s.heap.get? p.1=none/\bA.heap.get? p.1=some p.2:=by
  intro p hp
  rcases aR.mp hp with rfl | hp
  ·exact⟨bQ (by erw [el];exact ay _),g1⟩
  ·refine aM (cN.mp hp) λxq3 hq xq4=>?_;obtain⟨n,c⟩:=xq3;subst xq4;refine aM (cget n c hq) λo ho zz=>?_;refine⟨bQ ?_,by try dsimp only;erw [ho];rfl⟩;have:=x.above n c hq;rw[el]at this;exact d6 this
 have hfn:(fr.map (·.1)).Nodup:=by
  show(env.locals::(env.cells.map λp=>(p.2,(bA.heap.get? p.2).getD oL)).map (·.1)).Nodup
  erw [iC]
  refine bS.mpr ⟨λq=>?_,?_⟩
  ·refine aM (cN.mp q) λxq5 hq e=>?_;obtain⟨n,c⟩:=xq5;have:=x.above n c hq;have e:c=env.locals:=e;rw[e]at this;exact jU _ this
  ·show(env.cells.map λp=>p.2).Nodup;exact List.pairwise_map.mpr x.apart
 refine aM hR λrs S C=>?_;have bY:RM W B ρ (fr++AP) H bA.heap:=(bI rs (S.allocMany x.toInCall.keep fr hfr hfn) C);have hE:EnvOk (yu W.glob W.nm ps fd.scope) env:=by
  refine⟨es,by erw [henv];exact ok.glo,by erw [henv];exact ok.bui,c1,λy hy=>?_⟩
  erw [ec]
  exact jT.mp (cellsFrom_some _ _ _ (.inl hy))
 have hF:j2 W B ρ fr env (yu W.glob W.nm ps fd.scope) (vs.map some++cD (F.nl-F.np) none):=by
  refine CG oL _ (.head _) ((i7 eL epL g2 g3 g4)) (λy z c h1 h2=>?_) (λy hy=>?_) (λy i hy=>?_)
  ·exact name_of_addr x.apart (eU h1) (eU h2)
  ·rw[ek]at hy;have:=c6 _ (eU hy);simp at this
  ·have hg:=(nK hy).2;obtain⟨hk,hcase⟩:=En ok.sc (hps ▸hg);rw[hps]at hcase;have val:=FD (m:=F.nl-F.np) hwl c7 hall hcase;refine aM val λv hv1 hv2=>?_;refine bI v ?_ hv2;rcases hk with hk | hk
   ·refine .inl ⟨by erw [ek];exact hk,?_⟩
    erw [(ve (by erw [ek];exact hk) _ _ hbn)]
    exact hv1
   ·have hcs:=jT.mp (cellsFrom_some fd.scope.names (s.heap.objs.size+1) [] (x:=y) (.inl hk));obtain⟨c,hc⟩:=hcs;rw[<- ec]at hc;refine aM (x.cell y c hc) λo ho hd=>?_;refine .inr ⟨.inl (by erw [ek];exact hk),c,o,hc, .tail _ (cN.mpr ⟨(y,c),eU hc,by erw [ho];rfl⟩),?_⟩
    erw [hd,(vf (by erw [ek];exact hk) _ _ hbn),<- hv1];rfl
 have hA':AOk (A.deeper env) d:=⟨hh,hdp,hun⟩;refine y5 (x.toInCall.same) λi8 tk xq6=>?_;subst xq6;refine dO (hb (A.deeper env) B ρ fr AP env _ hA' hB hE hF bY) (λr s' xq7=>jX xq7 λB' ρ' fr' g R rr f q=>?_) λzz zy e=>e.elim;have R':RM W B' ρ' AP H' s'.heap:=R.dropF;rcases hv with rfl | ⟨rfl,rfl⟩
 ·cases q with
  | ret z=>exact hq _ _ (d4 B' ρ' g R' (⟨rr.1,rr.2,rr.3⟩) z)
 ·cases q
  exact hq _ _ (d4 B' ρ' g R' (⟨rr.1,rr.2,rr.3⟩) .none)
def Hi(W1:W.Top){a:Addr}{F:Fn}(ok:FnOk W a F fd body)(hvs:vs=args++F.dfl.drop (F.dfl.length-(F.np-args.length)))(hl:vs.length=F.np){fl:Fl}
  (hb:vm W d (yu W.glob W.nm (fd.params.args.map (·.arg)) fd.scope) (vs.map some++cD (F.nl-F.np) none) H body fl ls' H')(hv:fl= .ret v\/(fl= .next/\v= .none)):Gf W (d+1) H args (λus=>call (.ref a) us) v H':=by
 intro A B ρ AP s us hA hB hR hus;exact wpAny_call (u9 W1 ok hvs hl hb hv hA.handled (by have:=hA.depth;exact(bF (aK bh (f6 2 az)) (aI 960) [(aK ai (f6 2 cO),aI 960)] aS this)) (by have:=hA.units;exact(bF (aK (aK ai (aI 3)) (f6 16 az)) (aI 9000) [(aK ai (f6 16 cO),aI 9000)] aS this)) hB hR hus λu s' z=>z)
def St.allocManyM{F rs:Raws}{h h':Heap}(S:St B F rs h)(k:∀b x,h.get? b=some x->h'.get? b=some x)(l:Raws)(hl:∀p∈l,h.get? p.1=none/\h'.get? p.1=some p.2)(hn:(l.map (·.1)).Nodup):St B F (rs++l) h':=by
 have S':=S.ext k;refine⟨S'.keep,S'.frm,λp hp=>?_,?_,S'.nodF⟩
 ·rcases dz.mp hp with hp | hp
  ·exact S'.got p hp
  ·refine kI (S.free (hl p hp).1) λn1 n2 n3=>?_;exact eD ((hl p hp).2) n1 n2
 ·erw [bc]
  refine fb.mpr (eD S'.nod hn (λx hx y hy q=>?_));subst q;refine aM (cN.mp hy) λp hp xq8=>?_;subst xq8;exact(S.free (hl p hp).1).2.2 hx
def KX(W1:W.Top){c:Nat}{C a:Addr}{F:Fn}(hC:W.cat c=some C)(hm:makesIn W.K C=true)(hi:findIn W.K (.ref C) "__init__"=some (some (.ref a)))(hf:typeIn W.K (.ref a)=some (.type "function"))(ok:FnOk W a F fd body)(hvs:vs=(.ref H.length::args)++F.dfl.drop (F.dfl.length-(F.np-(args.length+1))))(hl:vs.length=F.np){fl:Fl}
  (hb:vm W d (yu W.glob W.nm (fd.params.args.map (·.arg)) fd.scope) (vs.map some++cD (F.nl-F.np) none) (H++ [.n c []]) body fl ls' H')(hv:fl= .ret .none\/fl= .next):Gf W (d+1) H args (λus=>call (.ref C) us) (.ref H.length) H':=by
 intro A B ρ AP s us hA hB hR hus;have X:=W1.K (hR.base hB);obtain⟨h,g,dr,t,os⟩:=s;have hu:∀c,(A.under c).handled=A.handled:=λc=>rfl;refine wpAny_call (make_core (makes_of X hm) (looks_findIn X hi) (λself=>bind_fn X self hf) (.inl rfl) ?_);have hlen:=hR.len;have kk:∀b x,h.get? b=some x->((h.push emptyDict).push (instObj C h.objs.size)).get? b=some x:=λb x e=>cH _ (cH _ e);have hs1:(h.push emptyDict).objs.size=h.objs.size+1:=Heap.size_push ..;have bY:=hR.newCell (h':=(h.push emptyDict).push (instObj C h.objs.size)) (c:= .n c []) (a:=h.objs.size+1) (.n (n:=0) hC .nil) λrs S=>S.allocManyM kk [(h.objs.size+1,instObj C h.objs.size),(h.objs.size,dictOf [] 0)] (by
  intro p hp
  simp only[aR,List.mem_nil_iff,or_false]at hp
  rcases hp with rfl | rfl
  ·exact⟨bQ (ox _),by have:=dE (h.push emptyDict) (o:=instObj C h.objs.size) rfl;rwa [hs1]at this⟩
  ·exact⟨bQ (ay _),cH _ (dE _ rfl)⟩) (by simp)
 have hself:VR W B (ρ++ [h.objs.size+1]) (.ref H.length) (.ref (h.objs.size+1)):= .ref (by erw [<- hlen];simp);refine u9 (s:=⟨(h.push emptyDict).push (instObj C h.objs.size),g,dr,t,os⟩) W1 ok (args:= .ref H.length::args) (by simpa using hvs) hl hb (v:= .none) (by rcases hv with e | e;exact .inl e;exact .inr ⟨e,rfl⟩) (by erw [hu];exact hA.handled) ?_ ?_ hB bY.2 (.cons hself (hus.mono bY.1)) λu s' z=>?_
 ·have:=hA.depth;have e:(A.under (.builtin "type.__call__" ⟨.ref C::us,[]⟩)).depth=A.depth+1:=by
   show A.depth+(Code.builtin "type.__call__" ⟨.ref C::us,[]⟩).weight=_
   erw [(show(Code.builtin "type.__call__" ⟨.ref C::us,[]⟩).weight=1 by kernel_rfl)];rfl
  erw [e];exact(bF (aK (eT bh) (f6 2 az)) (aI 960) [(aK ai (f6 2 cO),aI 960)] aS this)
 ·have:=hA.units;have e:(A.under (.builtin "type.__call__" ⟨.ref C::us,[]⟩)).units=A.units+1:=by
   show A.units+(Code.builtin "type.__call__" ⟨.ref C::us,[]⟩).cUnits=_
   erw [(show(Code.builtin "type.__call__" ⟨.ref C::us,[]⟩).cUnits=1 by kernel_rfl)];rfl
  erw [e];exact(bF (aK (aK bh (aI 3)) (f6 16 az)) (aI 9000) [(aK ai (f6 16 cO),aI 9000)] aS this)
 ·refine fy z λB' ρ' g' R' r' v'=>?_;cases v'
  exact⟨rfl,B',ρ',bY.1.trans g',R',⟨r'.1,r'.2,r'.3⟩,hself.mono g'⟩
end
end
mutual
abbrev MU(W:Wd)(x:Str):Gv->Prop
 | .fn i=> ∃a,W.fa[i]? =some a/\Gl W x (.ref a)/\keepIn W.K (.ref a)=true
 | .cls i=> ∃C,W.cat i=some C/\Gl W x (.ref C)/\keepIn W.K (.ref C)=true
 | .bi b=>Gl W x (vg b)
 | .rev=>Gl W x (.type "reversed")
 | .enum=>Gl W x (.type "enumerate")
 | .isinst=>Gl W x (.builtin "isinstance")
 | .ty .bool=>Gl W x (.type "bool")
 | .ty .int=>Gl W x (.type "int")
 | .ty (.cls _)=>False
 | .val v=> ∃u,Gl W x u/\∀B ρ,gw W B->VR W B ρ v u
structure Wd.Ok(W:Wd):Prop where
 top:W.Top
 objs:W.Objs
 cl:W.Cl
 ci:W.Ci
 glob:∀x g,W.glob.lookup x=some g->MU W x g
 fns:∀(f:Nat) (F:Fn),W.P.fns[f]? =some F->F.body= [.fail]\/∃a fd body,W.fa[f]? =some a/\FnOk W a F fd body
 fin:∀(i j:Nat) (a:Addr),W.fa[i]? =some a->True
 new:∀(c:Nat) (Cc:Cls) (C:Addr),W.P.clss[c]? =some Cc->W.cat c=some C->(∃F,W.P.fns[Cc.init]? =some F/\F.body= [.fail])\/(makesIn W.K C=true/\∃a,W.fa[Cc.init]? =some a/\findIn W.K (.ref C) "__init__"=some (some (.ref a))/\typeIn W.K (.ref a)=some (.type "function"))
def ti{W:Wd}(W1:W.Top){f:Value}(h:keepIn W.K f=true):∀h,(∀b o,W.base.get? b=some o->h.get? b=some o)->lQ W.M h f:=λh' k=>by
 refine aM (looks_keep (M:=W.M) h (W1.K k)) λq hq L=>?_;rcases hq with rfl | rfl
 ·exact .inl L
 ·exact .inr L
set_option tactic.hygienic true in
theorem lJ{W:Wd}{cx:CX}(ok:CXOk W cx){x:Str}{g:Gv}(h:cx.gv x=some g):cx.scope.names.lookup x=some .globalImplicit/\Ej x=false/\W.glob.lookup x=some g:=by
 unfold CX.gv at h
 split at h
 ·rename_i q
  rw[cw,beq_iff_eq,gM]at q;exact eD q.1 q.2 (ok.glob ▸h)
 ·cases h
abbrev j3(W:Wd)(d:Nat)(H:Hp)(f:Nat)(args:List AV)(v:AV)(H':Hp):Prop:=
 ∃d' a F fd body vs fl ls',d=d'+1/\W.fa[f]? =some a/\FnOk W a F fd body/\vs=args++F.dfl.drop (F.dfl.length-(F.np-args.length))/\vs.length=F.np/\
  vm W d' (yu W.glob W.nm (fd.params.args.map (·.arg)) fd.scope) (vs.map some++cD (F.nl-F.np) none) H body fl ls' H'/\(fl= .ret v\/(fl= .next/\v= .none))
def j3.op{W:Wd}(W1:W.Top){d:Nat}{H H':Hp}{f:Nat}{args:List AV}{v:AV}(h:j3 W d H f args v H'):∃a,W.fa[f]? =some a/\Gf W d H args (λus=>call (.ref a) us) v H':=by
 refine Nc h λd' a F fd body vs fl ls' xq1 ha ok h1 h2 h3 h4=>?_;subst xq1;exact bI a ha (Hi W1 ok h1 h2 h3 h4)
def j3.new{W:Wd}(W1:W.Ok){d:Nat}{H H':Hp}{c:Nat}{Cc:Cls}{args:List AV}(hc:W.P.clss[c]? =some Cc){C:Addr}(hC:W.cat c=some C)(h:j3 W d (H++ [.n c []]) Cc.init (.ref H.length::args) .none H')(hnf:∀F,W.P.fns[Cc.init]? =some F->F.body≠ [.fail]):Gf W d H args (λus=>call (.ref C) us) (.ref H.length) H':=by
 refine Nc h λd' a F fd body vs fl ls' xq2 ha ok h1 h2 h3 h4=>?_;subst xq2;rcases W1.new c Cc C hc hC with⟨F',e1,e2⟩ | ⟨m,a',ha',hi,ht⟩
 ·exact absurd e2 (hnf F' e1)
 ·rw[ha]at ha';(replace ha':=af ha';subst ha');exact KX W1.top hC m hi ht ok (by simpa using h1) h2 h3 (by rcases h4 with e | ⟨e,_⟩;exact .inl e;exact .inr e)
def bg{a:α}{p:Prop}(h:(none:Option α)=some a):p:=nomatch h
def ct{p:Prop}(h:false=true):p:=Bool.noConfusion h
abbrev Ko:Expr->Bool
 | .BoolOp .. =>false
 | .UnaryOp .Not _ _=>false
 | .IfExp .. =>false
 | .Compare .. =>false
 | _=>true
abbrev ES:Expr->Bool
 | .Compare .. =>true
 | _=>false
abbrev LB:Expr->Bool
 | .ListComp .. =>true
 | _=>false
abbrev JH:Expr->Bool
 | .Tuple .. =>true
 | _=>false
abbrev Tw(W:Wd)(d:Nat)(cx:CX)(ls:Ls)(H H':Hp)(elt:Expr)(gens:List Comprehension)(sc:Scope)(v:AV):Prop:=
  ∃t it ifs pt q au i m,gens= [⟨t,it,ifs,0⟩]/\ScF cx sc pt/\(∀env x,fJ it env x=pure x)/\(q=true->hW t=true)/\v= .ref au.length/\eW ls pt=true/\ML W d cx ls H it q i au/\∃ce,((ifs= []/\ce=none)\/∃e,ifs= [e]/\ce=some e)/\CRun W d (cx.inner sc) t ce elt au.length m ls (au++ [.list []]) i H'
structure RE(W:Wd)(f:Nat->Ls->Hp->E->Option (AV×Hp))(cx:CX)(e:Expr)(c:E):Prop where
 ev:∀d ls H v H',f d ls H c=some (v,H')->TE W d cx ls H e v H'
 fs:∀d ls H r,f d ls H c=some r->∀env x,fJ e env x=pure x
 tb:ES e=true->∀d ls H v H' q,f d ls H c=some (v,H')->gX v=some q->TB W d cx ls H e q H'
 lc:LB e=true->∀d ls H v H',f d ls H c=some (v,H')->∃elt gens sc p,e= .ListComp elt gens sc p/\Tw W d cx ls H H' elt gens sc v
 tv:JH e=true->∀d ls H v H',f d ls H c=some (v,H')->∃us,v= .U us
def RE.plain{W:Wd}{f:Nat->Ls->Hp->E->Option (AV×Hp)}{cx:CX}{e:Expr}{c:E}(ev:∀d ls H v H',f d ls H c=some (v,H')->TE W d cx ls H e v H')(fs:∀env x,fJ e env x=pure x)
  (hs:(ES e || LB e || JH e)=false):RE W f cx e c:=by
 simp only[eP]at hs;exact⟨ev,λzz zy zx zw zv=>fs,λh=>ct (hs.1.1.symm.trans h),λh=>ct (hs.1.2.symm.trans h),λh=>ct (hs.2.symm.trans h)⟩
structure Snd(W:Wd)(r:Ev):Prop where
 e:∀k cx e,CXOk W cx->RE W r.e cx e (cp k cx e)
 es:∀k cx es,CXOk W cx->es.all cv=true->∀d ls H vs H',r.es d ls H (es.map (cp k cx))=some (vs,H')->TL W d cx ls H es vs H'
 t:∀k cx e,CXOk W cx->∀d ls H b H',r.t d ls H (cp k cx e)=some (b,H')->TB W d cx ls H e b H'
 s:∀k cx st,CXOk W cx->∀d ls H fl ls' H',r.s d ls H (ke k cx st)=some (fl,ls',H')->TS W d cx ls H st fl ls' H'
 ss:∀k cx sts,CXOk W cx->∀d ls H fl ls' H',r.ss d ls H (sts.map (ke k cx))=some (fl,ls',H')->vm W d cx ls H sts fl ls' H'
 asg:∀k cx t c,CXOk W cx->mO k cx t=some c->∀d ls H v ls' H',r.asg d ls H c v=some (ls',H')->TA W d cx ls H t v ls' H'
 asgs:∀k cx ts cs,CXOk W cx->ts.all cv=true->ts.mapM (mO k cx)=some cs->∀d ls H vs ls' H',r.asgs d ls H cs vs=some (ls',H')->J3 W d cx ls H ts vs ls' H'/\cs.length=vs.length
 call:∀d H f args v H',r.call d H f args=some (v,H')->j3 W d H f args v H'/\∀F,W.P.fns[f]? =some F->F.body≠ [.fail]
 for_:∀k cx t pt b,CXOk W cx->rK cx t=some pt->∀d ls H it fl ls' H',r.for_ d ls H it pt (b.map (ke k cx))=some (fl,ls',H')->∃m,FRun W d cx t b m ls H it fl ls' H'
 comp:∀k cx sc t pt ce ee,CXOk W cx->ScF cx sc pt->rK (cx.inner sc) t=some pt->∀d ls H it j H',r.comp d ls H it pt (ce.map (cp k (cx.inner sc))) (cp k (cx.inner sc) ee) j=some H'->∃m,CRun W d (cx.inner sc) t ce ee j m ls H it H'
def cE{x:Option (α×β)}{f:α×β->Option γ}{c:γ}{G:Prop}(h:x.bind f=some c)(k:∀a b,x=some (a,b)->f (a,b)=some c->G):G:=
 aM (cu.mp h) λp h1 h2=>k p.1 p.2 h1 h2
def cK{x:Option α}{f:α->Option γ}{c:γ}{G:Prop}(h:x.bind f=some c)(k:∀a,x=some a->f a=some c->G):G:=
 aM (cu.mp h) λp h1 h2=>k p h1 h2
def kr{x:Option α}{f:α->γ}{c:γ}{G:Prop}(h:x.map f=some c)(k:∀a,x=some a->f a=c->G):G:=
 aM (bL.mp h) λp h1 h2=>k p h1 h2
def vW{x:Option α}{f:α->γ}{g:δ}{c:γ}{H:δ}{G:γ->δ->Prop}(h:(x.map λa=>(f a,g))=some (c,H))(k:∀a,x=some a->G (f a) g):G c H:=by
 refine aM (bL.mp h) λp h1 h2=>?_
 erw [<- (aD h2).1,<- (aD h2).2]
 exact k p h1
def du{a c:γ}{b d:δ}{G:γ->δ->Prop}(h:some (a,b)=some (c,d))(k:G a b):G c d:=by
 have:=af h
 erw [<- (aD this).1,<- (aD this).2]
 exact k
def hP{b:Bool}{x:Option α}{a:α}(h:G2 b x=some a):b=true/\x=some a:=by
 induction b using aG
 ·exact bg h
 ·exact⟨rfl,h⟩
def rD{e:Expr}{z:Expr×List Expr×Pos}(h:Ay e=some z):e= .Call z.1 z.2.1 [] z.2.2:=by
 cases e using bE with
 | Call f a k p=>cases k using aw with
  | nil=>exact af h ▸rfl
  | cons zz zy=>exact dA h
 | _=>exact dA h
def yM{e:Expr}{z:Expr×Str×Pos}(h:FP e=some z):e= .Attribute z.1 z.2.1 z.2.2:=by
 cases e using bE with
 | Attribute f a p=>exact af h ▸rfl
 | _=>exact dA h
def oC{e:Expr}{z:Str×Nat×Pos}(h:AZ e=some z):e= .Constant (.str z.1) z.2.1 z.2.2:=by
 cases e using bE with
 | Constant f a p=>cases f using Const.casesOn with
  | str s=>exact af h ▸rfl
  | _=>exact dA h
 | _=>exact dA h
def oN{l:List α}{z:α×α}(h:Bi l=some z):l= [z.1,z.2]:=by
 cases l using aw with
 | nil=>exact dA h
 | cons a l=>cases l using aw with
  | nil=>exact dA h
  | cons b l=>cases l using aw with
   | nil=>exact af h ▸rfl
   | cons zz zy=>exact dA h
def kC{l:List α}{z:α}(h:xE l=some z):l= [z]:=by
 cases l using aw with
 | nil=>exact dA h
 | cons a l=>cases l using aw with
  | nil=>exact af h ▸rfl
  | cons zz zy=>exact dA h
def wu{e:Expr}{z:List (Option Expr)×List Expr×Pos}(h:BK e=some z):e= .Dict z.1 z.2.1 z.2.2:=by
 cases e using bE with
 | Dict f a p=>exact af h ▸rfl
 | _=>exact dA h
def vH{e:Expr}{z:Option Expr×Option Expr×Option Expr×Pos}(h:mC e=some z):e= .Slice z.1 z.2.1 z.2.2.1 z.2.2.2:=by
 cases e using bE with
 | Slice f a b p=>exact af h ▸rfl
 | _=>exact dA h
def AD{g:Option Gv}{v:AV}(h:g.bind Gv.asVal=some v):g=some (.val v):=cK h λg h1 h2=>by
 cases g using Gv.casesOn with
 | val v=>exact af h2 ▸h1
 | _=>exact dA h2
def uH{e:Expr}{z:RepP}(h:KN e=some z):e= .Call (.Attribute z.x z.r z.p1) [.Constant (.str z.y) z.ky z.qy, .Constant (.str z.z) z.kz z.qz] [] z.p2:=
 cK h λc h1 h=>cK h λa h2 h=>cK h λq h3 h=>cK h λy h4 h=>cK h λw h5 h=>by
  erw [<- af h,rD h1,yM h2,oN h3,oC h4,oC h5];rfl
end
section
mutual
variable{k m:Nat}{x v:AV}{vs:List AV}{name:Str}{aP:Hp}
variable{W:Wd}{n:Nat}{d:Nat}{cx:CX}{ls:Ls}{H H':Hp}
set_option tactic.hygienic true in
theorem nN:∀{l:List Str} {x:Str} {i:Nat},tA x l=some i->l[i]? =some x
 | [],_,_,h=>by cases h
 | y::r,x,i,h=>by
  unfold tA at h
  split at h
  ·rename_i q
   (replace h:=af h;subst h)
   erw [eq_of_beq q];rfl
  ·refine aM (bL.mp h) λj hj xq1=>?_;subst xq1;simpa using nN hj
def vc(IH:∀m,m<=n->Snd W (ev W.P m))(ok:CXOk W cx):∀(es:List Expr) (m:Nat),m<=n->es≠ []->∀(H:Hp) (v:AV) (H':Hp),(ev W.P m).e d ls H (jQ .and (es.map (cp k cx)))=some (v,H')->TC W d cx ls H .And es v H'
 | [e],m,hm,_,_,_,_,h=>F8 (((IH m hm).e k cx e ok).ev _ _ _ _ _ h)
 | _::_::_,0,_,_,_,_,_,h=>bg h
 | e::e'::r,m+1,hm,_,_,v,H',h=>cE (show((ev W.P m).e d ls _ (cp k cx e)).bind _=_ from h) λx au h1 h2=>cK h2 λq h3 h4=>by
  have t:=((IH m (dh hm)).e k cx e ok).ev _ _ _ _ _ h1
  cases q using aG with
  | false=>exact du (G:=λv H'=>TC W d cx ls _ .And (e::e'::r) v H') h4 (r7 t h3)
  | true=>exact BW t h3 (vc IH ok (e'::r) m (dh hm) (gd _ _) _ _ _ h4)
 | [],_,_,h,_,_,_,_=>absurd rfl h
def yH(IH:∀m,m<=n->Snd W (ev W.P m))(ok:CXOk W cx):∀(es:List Expr) (m:Nat),m<=n->es≠ []->∀(H:Hp) (v:AV) (H':Hp),(ev W.P m).e d ls H (jQ .or (es.map (cp k cx)))=some (v,H')->TC W d cx ls H .Or es v H'
 | [e],m,hm,_,_,_,_,h=>F8 (((IH m hm).e k cx e ok).ev _ _ _ _ _ h)
 | _::_::_,0,_,_,_,_,_,h=>bg h
 | e::e'::r,m+1,hm,_,_,v,H',h=>cE (show((ev W.P m).e d ls _ (cp k cx e)).bind _=_ from h) λx au h1 h2=>cK h2 λq h3 h4=>by
  have t:=((IH m (dh hm)).e k cx e ok).ev _ _ _ _ _ h1
  cases q using aG with
  | true=>exact du (G:=λv H'=>TC W d cx ls _ .Or (e::e'::r) v H') h4 (r7 t h3)
  | false=>exact BW t h3 (yH IH ok (e'::r) m (dh hm) (gd _ _) _ _ _ h4)
 | [],_,_,h,_,_,_,_=>absurd rfl h
def tQ(IH:∀m,m<=n->Snd W (ev W.P m))(ok:CXOk W cx):∀(es:List Expr) (m:Nat),m<=n->es≠ []->∀(H:Hp) (b:Bool) (H':Hp),(ev W.P m).t d ls H (jQ .and (es.map (cp k cx)))=some (b,H')->I5 W d cx ls H .And es b H'
 | [e],m,hm,_,_,b,_,h=>by
  have t:=(IH m hm).t k cx e ok _ _ _ _ _ h
  cases b using aG with
  | true=>exact qY t BX
  | false=>exact mu t
 | _::_::_,0,_,_,_,_,_,h=>bg h
 | e::e'::r,m+1,hm,_,_,b,H',h=>cE (show((ev W.P m).t d ls _ (cp k cx e)).bind _=_ from h) λq au h1 h2=>by
  have t:=(IH m (dh hm)).t k cx e ok _ _ _ _ _ h1
  cases q using aG with
  | false=>exact du (G:=λv H'=>I5 W d cx ls _ .And (e::e'::r) v H') h2 (mu t)
  | true=>exact qY t (tQ IH ok (e'::r) m (dh hm) (gd _ _) _ _ _ h2)
 | [],_,_,h,_,_,_,_=>absurd rfl h
def vd(IH:∀m,m<=n->Snd W (ev W.P m))(ok:CXOk W cx):∀(es:List Expr) (m:Nat),m<=n->es≠ []->∀(H:Hp) (b:Bool) (H':Hp),(ev W.P m).t d ls H (jQ .or (es.map (cp k cx)))=some (b,H')->I5 W d cx ls H .Or es b H'
 | [e],m,hm,_,_,b,_,h=>by
  have t:=(IH m hm).t k cx e ok _ _ _ _ _ h
  cases b using aG with
  | false=>exact qY t BX
  | true=>exact mu t
 | _::_::_,0,_,_,_,_,_,h=>bg h
 | e::e'::r,m+1,hm,_,_,b,H',h=>cE (show((ev W.P m).t d ls _ (cp k cx e)).bind _=_ from h) λq au h1 h2=>by
  have t:=(IH m (dh hm)).t k cx e ok _ _ _ _ _ h1
  cases q using aG with
  | true=>exact du (G:=λv H'=>I5 W d cx ls _ .Or (e::e'::r) v H') h2 (mu t)
  | false=>exact qY t (vd IH ok (e'::r) m (dh hm) (gd _ _) _ _ _ h2)
 | [],_,_,h,_,_,_,_=>absurd rfl h
def KU(h:km H x m=true):m<=10:=by
 cases x using AV.casesOn with
 | ref k=>
  replace h:lH m H[k]? =true:=h;cases hc:H[k]? with
  | none=>rw[hc]at h;exact ct h
  | some c=>
   rw[hc]at h
   cases c using Cell.casesOn with
   | list zz=>exact aj (ab h) (ab rfl)
   | dict zz=>erw [aW h];exact ab rfl
   | n zz zy=>exact ct h
 | int zz=>erw [aW h];exact ab rfl
 | str zz=>exact ab (ae.mp h).2
 | _=>exact ct h
def Ef(W1:W.Ok){A:Around}{B:BgT}{ρ:List Addr}{F:Raws}{s:Shared}{u:Value}{f:Nat}{pl:Sem Bool}{Q:Value×List Value->Shared->Prop}(hn:W.nm[m]? =some name)(hf:kS W.P H x m=some f)(hc:j3 W d aP f (x::vs) v H')(hB:gw W B)(hR:RM W B ρ F H s.heap)(hv:VR W B ρ x u)
  (k:∀f,(∀h,(∀b o,W.base.get? b=some o->h.get? b=some o)->lQ W.M h f)->Gf W d aP (x::vs) (λus=>call f us) v H'->Q (f,[u]) s):wpAny W.M A (getMethod u name pl) Q fh s:=by
 cases x using AV.casesOn with
 | ref j=>
  refine aM (mV hv) λa e ha=>?_;rw[e]at k |-
  refine cK (show(H[j]?).bind (xK W.P m)=some f from hf) λc hcell h=>?_
  cases c using Cell.casesOn with
  | n c fs=>
   replace h:(match jz m fs with | none=>(W.P.clss[c]?).bind λC=>C.meths.lookup m | some zz=>none)=some f:=h;cases hnone:jz m fs with
   | some zz=>rw[hnone]at h;exact bg h
   | none=>
    rw[hnone]at h;refine w3 (hR.instA ha hcell) λdx C es m' e2 e3 e4 e5 zz=>?_;refine aM (W1.cl.meth _ _ _ _ _ h e2 hn) λfa hfa hB'=>?_;simp only[Bs,cw,beq_iff_eq]at hB';obtain⟨xq2,m4⟩:=hB';obtain⟨xq3,m3⟩:=xq2;obtain⟨m1,m2⟩:=xq3;refine aM (hc.op W1.top) λa'' ha' op=>?_;rw[<- af (hfa.symm.trans ha')]at op;have I:InstAt s.heap a (instObj C dx) C (some (dictOf es m')):=⟨e3,rfl,rfl,e4⟩;refine method_fn (W1.top.K (hR.base hB)) I (plainGet_of m1).1 (plainGet_of m1).2 m2 (beq_iff_eq.mp m3) ?_ (k _ (ti W1.top m4) op);unfold shadowIn
    try dsimp only
    erw [lookIn_dict,e5.getNone W1.cl hn hnone];rfl
  | _=>exact bg h
 | _=>exact bg hf
def s6(W1:W.Ok){o:Expr}{apos pos:Pos}{args:List Expr}{au:Hp}(hg:e8 o apos pos args=true)(hn:W.nm[m]? =some name)(h:TE W d cx ls H o x au)(h':TL W d cx ls au args vs aP)
  (hm:(∃f,kS W.P au x m=some f/\j3 W d aP f (x::vs) v H')\/(km au x m=true/\kR x m vs aP=some (v,H'))):TE W d cx ls H (.Call (.Attribute o name apos) args [] pos) v H':=by
 refine I0 (fv:=λzz zy zx=>True) hg h h' λA B ρ F s u pl Q hA hB hR hv k=>?_;rcases hm with⟨f,hf,hc⟩ | ⟨hp,hmv⟩
 ·exact Ef W1 hn hf hc hB hR hv k
 ·erw [(show name=Br m from af (hn.symm.trans (W1.cl.nmB m (KU hp))))]
  exact E1 W1.top hp hA hB hR hv (k _ (λh zz=>fU _) (Bl W1.cl hmv))
end
end
section
mutual
variable{a b e c:Expr}{k:Nat}{lo:Option Expr}{es:List Expr}
variable{W:Wd}{r:Ev}{cx:CX}
def gA:RE W (dP W.P r) cx e .fail:=⟨λzz zy zx zw zv h=>bg h,λzz zy zx zw h=>bg h,λzz zy zx zw zv zu zt h=>bg h,λzz zy zx zw zv zu h=>bg h,λzz zy zx zw zv zu h=>bg h⟩
def kK{α:Type}{o:Option α}{k:α->E}(h:∀a,o=some a->RE W (dP W.P r) cx e (k a)):RE W (dP W.P r) cx e (pH o k):=by
 cases o using bf with
 | none=>exact gA
 | some a=>exact h a rfl
def lE{b:Bool}{c:E}(h:b=true->RE W (dP W.P r) cx e c):RE W (dP W.P r) cx e (wX b c):=by
 cases b using aG with
 | false=>exact gA
 | true=>exact h rfl
def Kx{c:Const}{p:Pos}:RE W (dP W.P r) cx (.Constant c k p) (JB c):=by
 induction c using Const.casesOn <;> first
  | exact gA
  | exact .plain (λd ls H v H' h=>du (G:=λv H'=>TE W d cx ls H _ v H') h (by first | exact IZ | exact I3 | exact MA | exact My)) (λzz zy=>rfl) rfl
def GN(W1:W.Ok)(ok:CXOk W cx){x:Str}{p:Pos}:RE W (dP W.P r) cx (.Name x p) (ny cx x):=by
 unfold ny;cases hx:cx.slot x with
 | some i=>
  refine .plain (λd ls H v H' h=>?_) (λzz zy=>rfl) rfl;replace h:(match ls[i]? with | some (some v)=>some (v,H) | _=>none)=some (v,H'):=h;cases hl:ls[i]? with
  | none=>rw[hl]at h;exact bg h
  | some o=>cases o using bf with
   | none=>rw[hl]at h;exact bg h
   | some u=>rw[hl]at h;exact du (G:=λv H'=>TE W d cx ls H _ v H') h (Mw hx hl)
 | none=>
  refine kK λu hu=> .plain (λd ls H v H' h=>du (G:=λv H'=>TE W d cx ls H _ v H') h ?_) (λzz zy=>rfl) rfl;refine kI (lJ ok (AD hu)) λg1 g2 g3=>?_;refine aM (W1.glob _ _ g3) λw g4 g5=>?_;exact λA B ρ F env s hA hB hE hF hR=>kD W1.top hE (kQ g2).1 g4 g1 (hR.base hB) (d4 B ρ (.refl B ρ) hR (.refl s) (g5 B ρ hB))
def KD{ca cb:E}{op:Operator}{o:O2}{p:Pos}(ha:RE W r.e cx a ca)(hb:RE W r.e cx b cb)(ho:Px op=some o):RE W (dP W.P r) cx (.BinOp a op b p) (.o o ca cb):=
 .plain (λd ls H v H' h=>cE h λx au h1 h=>cE h λy aP h2 h3=>MF (ha.ev _ _ _ _ _ h1) (hb.ev _ _ _ _ _ h2) (La ho h3)) (λzz zy=>rfl) rfl
def KB(W1:W.Ok)(ok:CXOk W cx){op:Operator}{p:Pos}{z:EscP}{cx':E}(hz:Ir cx.nm a op b=some z)(hx:RE W r.e cx z.c.x cx'):RE W (dP W.P r) cx (.BinOp a op b p) (.esc z.p.1.cps.toList cx' z.c1 z.c.z.cps.toList z.c2 z.b.z.cps.toList):=by
 refine .plain (λd ls H v H' h=>cE h λx au h1 h=>kr h λw h2 h3=>?_) (λzz zy=>rfl) rfl
 erw [<- (aD h3).1,<- (aD h3).2]
 have te:=hx.ev _ _ _ _ _ h1;clear h h1 h3 hx;refine cK hz λs1 g1 hz=>?_;obtain⟨g2,hz⟩:=hP hz;refine cK hz λy g3 hz=>cK hz λq g4 hz=>cK hz λc1 g5 hz=>cK hz λc2 g6 hz=>?_;obtain⟨g7,g8⟩:=hP hz;have e:=af g8;subst e;simp only[cw,beq_iff_eq]at g7;obtain⟨xq1,m4⟩:=g7;obtain⟨xq2,m3⟩:=xq1;obtain⟨xq3,m2⟩:=xq2;obtain⟨m0,m1⟩:=xq3;have nm8:=W1.cl.nmB 8 (ab rfl);rw[ok.nm,nm8]at m1 m2;have ho:op= .Add:=by induction op using Operator.casesOn <;> first | rfl | exact ct g2
 erw [oC g1,ho,uH g3,uH g4]
 exact MD (af m1).symm (af m2).symm (beq_iff_eq.mpr m3) (beq_iff_eq.mpr m4) m0 (Str.ext' (q9 (kC g5))) (Str.ext' (q9 (kC g6))) te h2
def DR(W1:W.Ok)(ok:CXOk W cx){op:Operator}{p:Pos}{f:Expr->E}(I:∀e,RE W r.e cx e (f e)):RE W (dP W.P r) cx (.BinOp a op b p) (qe f cx.nm a op b):=by
 unfold qe;cases hz:Ir cx.nm a op b with
 | some z=>exact KB W1 ok hz (I _)
 | none=>exact kK λo ho=>KD (I _) (I _) ho
def Kw{ca:E}{p:Pos}(ha:RE W r.e cx a ca):RE W (dP W.P r) cx (.UnaryOp .USub a p) (.neg ca):=
 .plain (λd ls H v H' h=>cE h λx au h1 h=>by
  cases x using AV.casesOn with
  | int i=>exact du (G:=λv H'=>TE W d cx ls H _ v H') h (J2 (ha.ev _ _ _ _ _ h1) Lh)
  | _=>exact bg h) (λzz zy=>rfl) rfl
def Ku{ca:E}{p:Pos}(ha:RE W r.e cx a ca):RE W (dP W.P r) cx (.UnaryOp .Not a p) (.not ca):=
 .plain (λd ls H v H' h=>cE h λx au h1 h=>vW (f:=λb=>AV.bool (!b)) (G:=λv H'=>TE W d cx ls H _ v H') h λb h2=>J2 (ha.ev _ _ _ _ _ h1) (Lf h2)) (λzz zy=>rfl) rfl
def Nv{op:UnaryOp}{p:Pos}{f:Expr->E}(I:∀e,RE W r.e cx e (f e)):RE W (dP W.P r) cx (.UnaryOp op a p) (Fs f op a):=by
 cases op using UnaryOp.casesOn with
 | USub=>exact Kw (I _)
 | Not=>exact Ku (I _)
 | _=>exact gA
def KC(W1:W.Ok){ca cb:E}{o:CmpOp}{p:Pos}(ha:RE W r.e cx a ca)(hb:RE W r.e cx b cb)(hm:cZ o b=false):RE W (dP W.P r) cx (.Compare a [o] [b] p) (.j (JW o) ca cb) where
 ev d ls H v H' h:=cE h λx au h1 h=>cE h λy aP h2 h=>vW (f:=AV.bool) (G:=λv H'=>TE W d cx ls H _ v H') h λq h3=>ME (ha.ev _ _ _ _ _ h1) (hb.ev _ _ _ _ _ h2) (m6 W1.objs h3) hm
 fs _ _ _ _ _ _ _:=rfl
 tb _ d ls H v H' q h ht:=cE h λx au h1 h=>cE h λy aP h2 h=>kr h λq' h3 h4=>by
  cases h4;(replace ht:=af ht;subst ht)
  exact MJ (ha.ev _ _ _ _ _ h1) (hb.ev _ _ _ _ _ h2) (m6 W1.objs h3) Dy hm
 lc h:=ct h
 tv h:=ct h
def DN(W1:W.Ok){ca cb cc:E}{o o':CmpOp}{p:Pos}(ha:RE W r.e cx a ca)(hb:RE W r.e cx b cb)(hc:RE W r.e cx c cc)(hm:cZ o b=false)(hm':cZ o' c=false):RE W (dP W.P r) cx (.Compare a [o,o'] [b,c] p) (.chain ca (JW o) cb (JW o') cc) where
 ev d ls H v H' h:=cE h λx au h1 h=>cE h λy aP h2 h=>cK h λq h3 h=>by
  cases q using aG with
  | false=>exact du (G:=λv H'=>TE W d cx ls H _ v H') h (IE (ha.ev _ _ _ _ _ h1) (hb.ev _ _ _ _ _ h2) (m6 W1.objs h3) hm hm' p)
  | true=>exact cE h λz dM h4 h=>vW (f:=AV.bool) (G:=λv H'=>TE W d cx ls H _ v H') h λq h5=>Rh (v:= .none) (ha.ev _ _ _ _ _ h1) (hb.ev _ _ _ _ _ h2) (m6 W1.objs h3) (hc.ev _ _ _ _ _ h4) (m6 W1.objs h5) hm hm' p
 fs _ _ _ _ _ _ _:=rfl
 tb _ d ls H v H' q h ht:=cE h λx au h1 h=>cE h λy aP h2 h=>cK h λq' h3 h=>by
  cases q' using aG with
  | false=>cases h;(replace ht:=af ht;subst ht);exact Gz (ha.ev _ _ _ _ _ h1) (hb.ev _ _ _ _ _ h2) (m6 W1.objs h3) hm hm' p
  | true=>
   refine cE h λz dM h4 h=>kr h λq h5 h6=>?_;cases h6;(replace ht:=af ht;subst ht)
   exact Qi (v:= .none) (ha.ev _ _ _ _ _ h1) (hb.ev _ _ _ _ _ h2) (m6 W1.objs h3) (hc.ev _ _ _ _ _ h4) (m6 W1.objs h5) hm hm' p
 lc h:=ct h
 tv h:=ct h
def Eo{b:Bool}(h:(!b)=true):b=false:=by
 induction b using aG
 ·rfl
 ·exact ct h
def zg(W1:W.Ok){ops:List CmpOp}{bs:List Expr}{p:Pos}{f:Expr->E}(I:∀e,RE W r.e cx e (f e)):RE W (dP W.P r) cx (.Compare a ops bs p) (wy f a ops bs):=by
 cases ops using aw with
 | nil=>exact gA
 | cons o ops=>cases bs using aw with
  | nil=>exact gA
  | cons b bs=>cases ops using aw with
   | nil=>cases bs using aw with
    | nil=>exact lE λh=>KC W1 (I _) (I _) (Eo h)
    | cons zz zy=>exact gA
   | cons o' ops=>cases bs using aw with
    | nil=>exact gA
    | cons c bs=>cases ops using aw with
     | cons zz zy=>exact gA
     | nil=>cases bs using aw with
      | cons zz zy=>exact gA
      | nil=>exact lE λh=>lE λh'=>DN W1 (I _) (I _) (I _) (Eo h) (Eo h')
def Kz{cc ca cb:E}{p:Pos}(hc:∀d ls H q H',r.t d ls H cc=some (q,H')->TB W d cx ls H c q H')(ha:RE W r.e cx a ca)(hb:RE W r.e cx b cb):RE W (dP W.P r) cx (.IfExp c a b p) (.ife cc ca cb):=
 .plain (λd ls H v H' h=>cE h λq au h1 h=>MB (hc _ _ _ _ _ h1) (by
  cases q using aG with
  | true=>exact ha.ev _ _ _ _ _ h
  | false=>exact hb.ev _ _ _ _ _ h)) (λzz zy=>rfl) rfl
def GS(W1:W.Ok)(ok:CXOk W cx){ca:E}{g:Str}{i:Nat}{p:Pos}(hp:iV a=true)(hi:tA g cx.nm=some i)(ha:RE W r.e cx a ca):RE W (dP W.P r) cx (.Attribute a g p) (.aT ca i):=
 .plain (λd ls H v H' h=>cE h λx au h1 h=>vW (f:=id) (G:=λv H'=>TE W d cx ls H _ v H') h λw h2=>I4 W1.top W1.cl hp (ok.nm ▸nN hi) (ha.ev _ _ _ _ _ h1) h2) (λzz zy=>rfl) rfl
def KA{ca cb:E}{p:Pos}(hs:pN b=false)(ha:RE W r.e cx a ca)(hb:RE W r.e cx b cb):RE W (dP W.P r) cx (.Subscript a b p) (.idx ca cb):=
 .plain (λd ls H v H' h=>cE h λx au h1 h=>cE h λy aP h2 h=>vW (f:=id) (G:=λv H'=>TE W d cx ls H _ v H') h λw h3=>MC (ha.ev _ _ _ _ _ h1) (hb.ev _ _ _ _ _ h2) hs h3) (λzz zy=>rfl) rfl
def xC{f:Expr->E}(I:∀e,RE W r.e cx e (f e)){d:Nat}{ls:Ls}{H H':Hp}{l:Option AV}(h:MV (r.e d ls H) H (lo.map f)=some (l,H')):TO W d cx ls H lo l H':=by
 cases lo using bf with
 | none=>exact du (G:=λl H'=>TO W d cx ls H none l H') h .none
 | some e=>
  refine kr h λp h1 h2=>?_
  erw [<- (aD h2).1,<- (aD h2).2]
  exact .some ((I e).ev _ _ _ _ _ h1)
def DL{hi:Option Expr}{q p:Pos}{f:Expr->E}(I:∀e,RE W r.e cx e (f e)):RE W (dP W.P r) cx (.Subscript a (.Slice lo hi none q) p) (.slice (f a) (lo.map f) (hi.map f)):=
 .plain (λd ls H v H' h=>cE h λx au h1 h=>cE h λy aP h2 h=>cE h λz dM h3 h=>F6 ((I a).ev _ _ _ _ _ h1) (xC I h2) (xC I h3) h) (λzz zy=>rfl) rfl
def KE{p:Pos}{f:Expr->E}(I:∀e,RE W r.e cx e (f e)):RE W (dP W.P r) cx (.Subscript a b p) (qd f a b):=by
 unfold qd;cases hz:mC b with
 | some z=>
  refine lE λhn=>?_;obtain⟨lo,hi,st,q⟩:=z
  erw [vH hz]
  cases st using bf with
  | none=>exact DL I
  | some zz=>exact ct hn
 | none=>exact KA (by induction b using bE <;> first | rfl | exact nomatch hz) (I _) (I _)
def GP{cs:List E}{p:Pos}(hs:∀d ls H vs H',r.es d ls H cs=some (vs,H')->TL W d cx ls H es vs H'):RE W (dP W.P r) cx (.List es p) (.list cs):=
 .plain (λd ls H v H' h=>cE h λvs au h1 h=>kE h λhr h=>du (G:=λv H'=>TE W d cx ls H _ v H') h (I1 (hs _ _ _ _ _ h1) (fg hr))) (λzz zy=>rfl) rfl
def Ks{cs:List E}{p:Pos}(hs:∀d ls H vs H',r.es d ls H cs=some (vs,H')->TL W d cx ls H es vs H'):RE W (dP W.P r) cx (.Tuple es k p) (.U cs) where
 ev d ls H v H' h:=cE h λvs au h1 h=>kE h λhr h=>du (G:=λv H'=>TE W d cx ls H _ v H') h (Mx (hs _ _ _ _ _ h1) (fg hr))
 fs _ _ _ _ _ _ _:=rfl
 tb h:=ct h
 lc h:=ct h
 tv _ d ls H v H' h:=cE h λvs au h1 h=>kE h λhr h=>⟨vs,(aD (af h)).1.symm⟩
def DM{ks:List (Option Expr)}{vs:List Expr}{p:Pos}(h:(ks.isEmpty && vs.isEmpty)=true):RE W (dP W.P r) cx (.Dict ks vs p) .dict0:=by
 cases ks using aw with
 | cons zz zy=>exact ct h
 | nil=>cases vs using aw with
  | cons zz zy=>exact ct h
  | nil=>exact .plain (λd ls H v H' h=>du (G:=λv H'=>TE W d cx ls H _ v H') h F7) (λzz zy=>rfl) rfl
end
end
section
mutual
variable{args ifs:List Expr}{g x m:Str}{gp apos:Pos}{i k:Nat}{o e elt t:Expr}{sc:Scope}{pt:PT}
variable{W:Wd}{r:Ev}{cx:CX}
noncomputable abbrev De(W:Wd)(r:Ev)(cx:CX)(es:List Expr)(cs:List E):Prop:= ∀d ls H vs H',r.es d ls H cs=some (vs,H')->TL W d cx ls H es vs H'
noncomputable abbrev qo(W:Wd)(r:Ev):Prop:= ∀d H f args v H',r.call d H f args=some (v,H')->j3 W d H f args v H'/\∀F,W.P.fns[f]? =some F->F.body≠ [.fail]
def Nx(W1:W.Ok)(ok:CXOk W cx){p:Pos}{cs:List E}(C:qo W r)(hg:cx.gv g=some (.fn i))(ha:args.all cv=true)(hs:De W r cx args cs):RE W (dP W.P r) cx (.Call (.Name g gp) args [] p) (.call i cs):=
 .plain (λd ls H v H' h=>cE h λvs au h1 h=>by
  refine kI (lJ ok hg) λg1 g2 g3=>?_;refine dt (W1.glob _ _ g3) λa g4 g5 g6=>?_;refine aM ((C _ _ _ _ _ _ h).1.op W1.top) λa' ha' op=>?_;have e:=af (g4.symm.trans ha');rw[<- e]at op;exact wH W1.top g2 g1 g5 ha (ti W1.top g6) (hs _ _ _ _ _ h1) op) (λzz zy=>rfl) rfl
def Kv(W1:W.Ok)(ok:CXOk W cx){p:Pos}{cs:List E}(C:qo W r)(hg:cx.gv g=some (.cls i))(ha:args.all cv=true)(hs:De W r cx args cs):RE W (dP W.P r) cx (.Call (.Name g gp) args [] p) (.new i cs):=
 .plain (λd ls H v H' h=>cE h λvs au h1 h=>cK h λCc h2 h=>cE h λx aP h3 h=>kE h λhx h=>by
  have hx:x= .none:=by induction x using AV.casesOn <;> first | rfl | exact ct hx
  rw[hx]at h3;refine kI (lJ ok hg) λg1 g2 g3=>?_;refine dt (W1.glob _ _ g3) λa g4 g5 g6=>?_;have co:=C _ _ _ _ _ _ h3;exact du (G:=λv H'=>TE W d cx ls H _ v H') h (wH W1.top g2 g1 g5 ha (ti W1.top g6) (hs _ _ _ _ _ h1) (j3.new W1 h2 g4 co.1 co.2))) (λzz zy=>rfl) rfl
def Ny(W1:W.Ok)(ok:CXOk W cx){p:Pos}{cs:List E}{b:BI}(hg:cx.gv g=some (.bi b))(ha:args.all cv=true)(hs:De W r cx args cs):RE W (dP W.P r) cx (.Call (.Name g gp) args [] p) (.bi b cs):=
 .plain (λd ls H v H' h=>cE h λvs au h1 h=>by
  refine kI (lJ ok hg) λg1 g2 g3=>?_;exact wH W1.top g2 g1 (W1.glob _ _ g3) ha (λh zz=>yK b) (hs _ _ _ _ _ h1) (NS h)) (λzz zy=>rfl) rfl
def lI(h:jL e=some x):∃p,e= .Name x p:=by
 induction e using bE <;> first | exact bg h | exact⟨_,by erw [af h];rfl⟩
def Oe(W1:W.Ok){g:Gv}{k:IK}(hk:g.asIK=some k)(h:MU W x g):∃kv,Gl W x kv/\P9 W k kv:=by
 cases g using Gv.casesOn with
 | cls c=>refine dt h λC q4 q5 zz=>?_;erw [<- af hk];exact⟨_,q5,C,q4,rfl⟩
 | bi b=>
  cases b using BI.casesOn with
  | int=>erw [<- af hk];exact bI _ h rfl
  | _=>exact bg hk
 | ty t=>
  erw [<- af hk]
  cases t using IK.casesOn with
  | bool=>exact bI _ h rfl
  | int=>exact bI _ h rfl
  | cls c=>exact h.elim
 | _=>exact bg hk
def Ky(W1:W.Ok)(ok:CXOk W cx){p xp:Pos}{a:Expr}{ca:E}{gx:Gv}{k:IK}(hg:cx.gv g=some .isinst)(hx:cx.gv x=some gx)(hk:gx.asIK=some k)(hs:cv a=true)(ha:RE W r.e cx a ca):RE W (dP W.P r) cx (.Call (.Name g gp) [a, .Name x xp] [] p) (.h ca k):=
 .plain (λd ls H v H' h=>cE h λu au h1 h=>vW (f:=AV.bool) (G:=λv H'=>TE W d cx ls H _ v H') h λq h2=>by
  refine kI (lJ ok hg) λg1 g2 g3=>?_;refine kI (lJ ok hx) λq1 q2 q3=>?_;refine aM (Oe W1 hk (W1.glob _ _ q3)) λkv q4 q5=>?_;exact Mz W1.top W1.ci g2 q2 g1 q1 (W1.glob _ _ g3) q4 q5 hs (ha.ev _ _ _ _ _ h1) h2) (λzz zy=>rfl) rfl
def vk(h:kY args=true):args.all cv=true:=(ae.mp h).1
def uN{pos:Pos}(h:e8 o apos pos args=true):args.all cv=true:=vk (ae.mp h).2
def DO(W1:W.Ok)(ok:CXOk W cx){p:Pos}{f:Expr->E}(I:∀e,RE W r.e cx e (f e))(C:qo W r)(hs:args.all cv=true->De W r cx args (args.map f))(ha:kY args=true){v:Gv}(hg:cx.gv g=some v):
  RE W (dP W.P r) cx (.Call (.Name g gp) args [] p) (Fv f cx args v):=by
 have st:=vk ha
 cases v using Gv.casesOn with
 | fn i=>exact Nx W1 ok C hg st (hs st)
 | cls i=>exact Kv W1 ok C hg st (hs st)
 | bi b=>exact Ny W1 ok hg st (hs st)
 | isinst=>
  refine kK λq hq=>kK λx hx=>kK λk hk=>cK hk λgx h1 h2=>?_;rw[oN hq]at st |-
  obtain⟨xp,e⟩:=lI hx
  erw [e]
  exact Ky W1 ok hg h1 h2 (ae.mp st).1 (I _)
 | _=>exact gA
def ou{cx:CX}{q:Gv->Bool}{z:RevP}(h:nA cx q e=some z):e= .Call (.Name z.g z.gp) [z.x] [] z.p/\cv z.x=true/\∃v,cx.gv z.g=some v/\q v=true:=
 cK h λc h1 h=>by
  have e:=rD h1;obtain⟨c1,c2,c3⟩:=c
  erw [e]
  clear e h1
  cases c1 using bE with
  | Name g gp=>
   refine cK h λx h2 h=>cK h λv h3 h=>?_;obtain⟨h4,h5⟩:=hP h
   erw [<- af h5]
   obtain⟨h6,h7⟩:=ae.mp h4;exact⟨by erw [kC h2];rfl,h7,v,h3,h6⟩
  | _=>exact bg h
def EN{v:Gv}(h:v.isRev=true):v= .rev:=by induction v using Gv.casesOn <;> first | rfl | exact ct h
def CA{v:Gv}(h:v.isEnum=true):v= .enum:=by induction v using Gv.casesOn <;> first | rfl | exact ct h
def Ap{z:DgetP}(h:BL o i args=some z):o= .Dict z.ks z.vs z.p/\args= [z.k,z.d]/\litPairs z.ks z.vs=some z.D/\C0 z.D=some z.t/\
  (i==2 && intKeyed z.D && decide (intKeysOf z.D).Nodup && z.ks.all (·.isSome) && z.ks.length==z.vs.length && cg z.ks.length 16 && !z.ks.isEmpty)=true:=
 cK h λs1 g1 h=>cK h λq g2 h=>cK h λD g3 h=>cK h λt g4 h=>by
  obtain⟨g5,g6⟩:=hP h
  erw [<- af g6]
  exact we (wu g1) (oN g2) g3 g4 g5
def Cv{α:Type}{l:List α}(h:(!l.isEmpty)=true):l≠ []:=λe=>by rw[e]at h;exact ct h
def GR(W1:W.Ok){o k dv:Expr}{p:Pos}{ck cd:E}{ks:List (Option Expr)}{vs:List Expr}{kp:Pos}{D:List (PyData×PyData)}{t:List (Int×List Nat)}(hg:e8 (.Dict ks vs kp) apos p [k,dv]=true)(hn:W.nm[i]? =some m)
  (g3:litPairs ks vs=some D)(g4:C0 D=some t)(g5:(i==2 && intKeyed D && decide (intKeysOf D).Nodup && ks.all (·.isSome) && ks.length==vs.length && cg ks.length 16 && !ks.isEmpty)=true)(hk:RE W r.e cx k ck)(hd:RE W r.e cx dv cd):
  RE W (dP W.P r) cx (.Call (.Attribute (.Dict ks vs kp) m apos) [k,dv] [] p) (.dget t ck cd):=by
 refine .plain (λd ls H v H' h=>cE h λx au h1 h=>cE h λy aP h2 h=>?_) (λzz zy=>rfl) rfl;have t1:=hk.ev _ _ _ _ _ h1;have t2:=hd.ev _ _ _ _ _ h2;clear h1 h2 hk hd
 cases x using AV.casesOn with
 | int j=>
  cases y using AV.casesOn with
  | str y=>
   refine du (G:=λv H'=>TE W d cx ls H _ v H') h ?_;clear h;obtain⟨g5,c7⟩:=ae.mp g5;obtain⟨g5,c6⟩:=ae.mp g5;obtain⟨g5,c5⟩:=ae.mp g5;obtain⟨g5,c4⟩:=ae.mp g5;obtain⟨g5,c3⟩:=ae.mp g5;obtain⟨c1,c2⟩:=ae.mp g5;rw[beq_iff_eq.mp c1]at hn;have st:=uN hg
   erw [(show m="get" from af (hn.symm.trans (W1.cl.nmB 2 (ab rfl))))]
   exact I2 W1.cl hg g3 g4 c2 (of_decide_eq_true c3) c4 (beq_iff_eq.mp c5) (yW (cM.mp c6)) (Cv c7) (wG (ae.mp st).1 t1 (wG (ae.mp (ae.mp st).2).1 t2 F5))
  | _=>exact bg h
 | _=>exact bg h
def zf(W1:W.Ok)(ok:CXOk W cx){x:Expr}{p p':Pos}{co cx':E}(hg:e8 o apos p [.Call (.Name g gp) [x] [] p']=true)(hn:W.nm[i]? =some m)(hi:i=6)(hx:cv x=true)(g4:cx.gv g=some .rev)(ho:RE W r.e cx o co)(hxx:RE W r.e cx x cx'):
  RE W (dP W.P r) cx (.Call (.Attribute o m apos) [.Call (.Name g gp) [x] [] p'] [] p) (.joinrev co cx'):=by
 refine .plain (λd ls H v H' h=>cE h λx au h1 h=>cE h λy aP h2 h=>?_) (λzz zy=>rfl) rfl;have t1:=ho.ev _ _ _ _ _ h1;have t2:=hxx.ev _ _ _ _ _ h2;clear h1 h2 ho hxx
 cases x using AV.casesOn with
 | str s=>
  cases y using AV.casesOn with
  | ref k=>
   refine cK (show(aF aP k).bind _=_ from h) λvs h3 h=>vW (f:=id) (G:=λv H'=>TE W d cx ls H _ v H') h λw h4=>?_;rw[hi]at hn;refine kI (lJ ok g4) λq1 q2 q3=>?_
   erw [(show m="join" from af (hn.symm.trans (W1.cl.nmB 6 (ab rfl))))]
   exact AH W1.top hg hx q2 q1 (W1.glob _ _ q3) t1 t2 h3 h4
  | _=>exact bg h
 | _=>exact bg h
def GO(W1:W.Ok)(ok:CXOk W cx){p:Pos}{co:E}{cs:List E}(C:qo W r)(hg:e8 o apos p args=true)(hn:W.nm[i]? =some m)(ho:RE W r.e cx o co)(hs:De W r cx args cs):
  RE W (dP W.P r) cx (.Call (.Attribute o m apos) args [] p) (.meth co i cs):=
 .plain (λd ls H v H' h=>cE h λx au h1 h=>by
  have t:=ho.ev _ _ _ _ _ h1
  try dsimp only at h
  cases hf:kS W.P au x i with
  | some f=>
   rw[hf]at h;exact cE h λvs aP h2 h=>s6 W1 hg hn t (hs _ _ _ _ _ h2) (.inl (bI f hf ((C _ _ _ _ _ _ h).1)))
  | none=>
   rw[hf]at h;exact kE h λhp h=>cE h λvs aP h2 h=>s6 W1 hg hn t (hs _ _ _ _ _ h2) (.inr ⟨hp,h⟩)) (λzz zy=>rfl) rfl
def GT(W1:W.Ok)(ok:CXOk W cx){g:Expr}{p:Pos}{f:Expr->E}(I:∀e,RE W r.e cx e (f e))(C:qo W r)(hs:args.all cv=true->De W r cx args (args.map f)):RE W (dP W.P r) cx (.Call g args [] p) (tO f cx g args p):=by
 cases g using bE with
 | Name g gp=>exact lE λha=>kK λv hg=>DO W1 ok I C hs ha hg
 | Attribute o m apos=>
  refine lE λhg=>kK λi hi=>?_;have hn:W.nm[i]? =some m:=ok.nm ▸nN hi;unfold Ft;cases hz:BL o i args with
  | some z=>
   refine Qe (Ap hz) λe1 e2 g3 g4 g5=>?_;rw[e1,e2]at hg |-
   exact GR W1 (o:=o) hg hn g3 g4 g5 (I _) (I _)
  | none=>
   try dsimp only
   cases hz:KL cx i args with
   | some z=>
    refine cK hz λa g1 hz=>?_;obtain⟨g2,hz⟩:=hP hz;obtain⟨e,g3,gv,g4,g5⟩:=ou hz;rw[EN g5]at g4;rw[kC g1,e]at hg |-
    exact zf W1 ok hg hn (beq_iff_eq.mp g2) g3 g4 (I _) (I _)
   | none=>exact GO W1 ok C hg hn (I _) (hs (uN hg))
 | _=>exact gA
def yB{cs:List E}{c:Option E}{g:Expr->E}(h:As (ifs.map g)=some c):∃ce:Option Expr,c=ce.map g/\((ifs= []/\ce=none)\/∃e,ifs= [e]/\ce=some e):=by
 cases ifs using aw with
 | nil=>exact bI none ((af h).symm) (.inl ⟨rfl,rfl⟩)
 | cons e ifs=>cases ifs using aw with
  | nil=>exact bI (some e) ((af h).symm) (.inr (bI e rfl rfl))
  | cons zz zy=>exact bg h
noncomputable abbrev B2(W:Wd)(r:Ev):Prop:= ∀k cx sc t pt ce ee,CXOk W cx->ScF cx sc pt->rK (cx.inner sc) t=some pt->∀d ls H it j H',r.comp d ls H it pt (ce.map (cp k (cx.inner sc))) (cp k (cx.inner sc) ee) j=some H'->∃m,CRun W d (cx.inner sc) t ce ee j m ls H it H'
def A0(W1:W.Ok)(ok:CXOk W cx)(CC:B2 W r){it:Expr}{pos:Pos}{c:Option E}{q:Bool}{ci:E}(hpt:rK (cx.inner sc) t=some pt)(hc:As (ifs.map (cp k (cx.inner sc)))=some c)(hs:G1 cx sc pt=true)(hq:q=true->hW t=true)
  (hset:∀d ls H x,r.e d ls H ci=some x->∀env x,fJ it env x=pure x)
  (hsrc:∀d ls H x au i,r.e d ls H ci=some (x,au)->sH q au x=some i->ML W d cx ls H it q i au):
  RE W (dP W.P r) cx (.ListComp elt [⟨t,it,ifs,0⟩] sc pos) (.comp (cp k (cx.inner sc) elt) pt ci q c):=by
 have key:∀d ls H v H',dP W.P r d ls H (.comp (cp k (cx.inner sc) elt) pt ci q c)=some (v,H')->Tw W d cx ls H H' elt [⟨t,it,ifs,0⟩] sc v/\TE W d cx ls H (.ListComp elt [⟨t,it,ifs,0⟩] sc pos) v H':=by
  intro d ls H v H' h
  replace h:(match eW ls pt with | false=>none | true=>(r.e d ls H ci).bind fun(x,H)=>(sH q H x).bind λit=>(r.comp d ls (H++ [.list []]) it pt c (cp k (cx.inner sc) elt) H.length).map λH'=>(AV.ref H.length,H'))=some (v,H'):=h
  cases hf:eW ls pt with
  | false=>rw[hf]at h;exact bg h
  | true=>
   rw[hf]at h
   refine cE h λx au h1 h=>?_
   refine cK h λi hi h=>kr h λaP h2 h3=>?_
   erw [<- (aD h3).1,<- (aD h3).2]
   refine aM (yB (cs:= []) hc) λce hce he=>?_
   rw[hce]at h2
   obtain⟨m,hr⟩:=CC k cx sc t pt ce elt ok (qA hs) hpt _ _ _ _ _ _ h2
   have sr:=hsrc _ _ _ _ _ _ h1 hi
   exact⟨⟨t,it,ifs,pt,q,au,i,m,rfl,qA hs,hset _ _ _ _ h1,hq,rfl,hf,sr,ce,he,hr⟩,BV W1.cl ok (qA hs) he hq (hset _ _ _ _ h1) hf sr hr⟩
 exact⟨λd ls H v H' h=>(key d ls H v H' h).2,λzz zy zx zw zv zu zt=>rfl,λh=>ct h,λzz d ls H v H' h=>(QI _ _ _ _ rfl ((key d ls H v H' h).1)),λh=>ct h⟩
def Ec{cx:CX}(h:rK cx t=some pt)(hm:pt.isMany=true):hW t=true:=by
 cases t using bE with
 | Name x p=>exact kr h λi h1 h2=>by rw[<- h2]at hm;exact ct hm
 | Tuple es k p=>rfl
 | _=>exact bg h
def Nz(W1:W.Ok)(ok:CXOk W cx)(CC:B2 W r){gens:List Comprehension}{pos:Pos}(I:∀e,RE W r.e cx e (cp k cx e)):RE W (dP W.P r) cx (.ListComp elt gens sc pos) (pH (xE gens) (Fu (cp k) cx elt sc)):=by
 refine kK λc hc=>?_
 erw [kC hc]
 obtain⟨t,it,ifs,a⟩:=c;refine lE λha=>?_;have ha':a=0:=beq_iff_eq.mp ha;subst ha';refine kK λpt hpt=>kK λcnd hcnd=>lE λhs=>?_
 try dsimp only
 cases hz:nA cx Gv.isEnum it with
 | some z=>
  refine lE λhm=>?_;obtain⟨e,g3,gv,g4,g5⟩:=ou hz;rw[CA g5]at g4;refine kI (lJ ok g4) λq1 q2 q3=>?_
  erw [e]
  refine A0 W1 ok CC hpt hcnd hs (λzz=>Ec hpt hm) (λzz zy zx zw zv zu zt=>rfl) λd ls H x au i h1 h2=>?_
  cases x using AV.casesOn with
  | str s=>erw [<- af h2];exact Gc W1.top g3 q2 q1 (W1.glob _ _ q3) ((I _).ev _ _ _ _ _ h1)
  | _=>exact bg h2
 | none=>exact A0 W1 ok CC hpt hcnd hs (λh=>ct h) (λzz zy zx zw h=>(I it).fs _ _ _ _ h) λd ls H x au i h1 h2=>C9 ((I it).ev _ _ _ _ _ h1) h2
end
end
section
mutual
variable{W:Wd}{n:Nat}{cx:CX}
def B9(IH:∀m,m<=n->Snd W (ev W.P m)){k:Nat}(ok:CXOk W cx){op:BoolOp}{es:List Expr}{p:Pos}:RE W (dP W.P (ev W.P n)) cx (.BoolOp op es p) (wX (cg 1 es.length) (jQ (Qr op) (es.map (cp k cx)))):=by
 refine lE λhl=>?_;have I:=(IH n (ay n)).e k cx
 cases es using aw with
 | nil=>exact ct hl
 | cons e es=>cases es using aw with
  | nil=>exact ct hl
  | cons e' es=>
   refine .plain (λd ls H v H' h=>?_) (λzz zy=>rfl) rfl
   cases op using BoolOp.casesOn with
   | And=>
    exact cE (show((ev W.P n).e d ls H (cp k cx e)).bind _=_ from h) λx au h1 h2=>cK h2 λq h3 h4=>by
     have t:=(I e ok).ev _ _ _ _ _ h1
     cases q using aG with
     | false=>exact du (G:=λv H'=>TE W d cx ls H _ v H') h4 (qj (r7 t h3))
     | true=>exact qj (BW t h3 (vc IH ok (e'::es) n (ay n) (gd _ _) _ _ _ h4))
   | Or=>
    exact cE (show((ev W.P n).e d ls H (cp k cx e)).bind _=_ from h) λx au h1 h2=>cK h2 λq h3 h4=>by
     have t:=(I e ok).ev _ _ _ _ _ h1
     cases q using aG with
     | true=>exact du (G:=λv H'=>TE W d cx ls H _ v H') h4 (qj (r7 t h3))
     | false=>exact qj (BW t h3 (yH IH ok (e'::es) n (ay n) (gd _ _) _ _ _ h4))
def xi(W1:W.Ok)(IH:∀m,m<=n->Snd W (ev W.P m))(k:Nat)(e:Expr)(ok:CXOk W cx):RE W (dP W.P (ev W.P n)) cx e (cp k cx e):=by
 have S:=IH n (ay n)
 cases k using bM with
 | zero=>exact gA
 | succ k=>
 have I:=λe=>S.e k cx e ok
 cases e using bE with
 | Constant c kd pos=>exact Kx
 | Name x pos=>exact GN W1 ok
 | BoolOp op es pos=>exact B9 IH ok
 | BinOp a op b pos=>exact DR W1 ok I
 | UnaryOp op a pos=>exact Nv I
 | IfExp c a b pos=>exact Kz (S.t k cx c ok) (I _) (I _)
 | Compare a ops bs pos=>exact zg W1 I
 | Attribute a f pos=>exact lE λhp=>kK λi hi=>GS W1 ok hp hi (I _)
 | List es pos=>exact lE λhs=>GP (S.es k cx es ok hs)
 | Tuple es kk pos=>exact lE λhs=>Ks (S.es k cx es ok hs)
 | Dict ks vs pos=>exact lE λh=>DM h
 | Subscript a b pos=>exact KE I
 | Call f args kws pos=>cases kws using aw with
  | cons zz zy=>exact gA
  | nil=>exact GT W1 ok I S.call (S.es k cx args ok)
 | ListComp elt gens sc pos=>exact Nz W1 ok S.comp I
 | _=>exact gA
end
end
section
mutual
variable{α β γ:Type}{b:Bool}{ls':Ls}{e:Expr}{k:Nat}{vs:List AV}
variable{W:Wd}{n:Nat}{d:Nat}{cx:CX}{ls:Ls}{H H':Hp}
def z9(h:Ko e=true)(env:Env)(whole:Sem Value):PySem.isTrue e env whole=(do let v <- whole;standAt e.pos;holding [v] (truthy v)):=by
 cases e using bE with
 | UnaryOp op a p=>induction op using UnaryOp.casesOn <;> first | rfl | exact ct h
 | BoolOp=>exact ct h
 | IfExp=>exact ct h
 | Compare=>exact ct h
 | _=>rfl
def xg{r:Ev}{c:E}(h:mf c=false):mM r d ls H c=(r.e d ls H c).bind fun(x,H)=>(gX x).map λb=>(b,H):=by
 induction c using E.casesOn <;> first | rfl | exact ct h.symm
def Jh{r:Ev}{c:E}{G:Prop}(h:mM r d ls H c=some (b,H'))(hc:mf c=false)(k:∀x,r.e d ls H c=some (x,H')->gX x=some b->G):G:=by
 rw[xg hc]at h;exact cE h λx au h1 h=>kr h λq h2 h3=>k x ((aD h3).2 ▸h1) ((aD h3).1 ▸h2)
def kZ{o:Option α}{k:α->E}(h:∀a,mf (k a)=false):mf (pH o k)=false:=by
 cases o using bf with
 | none=>rfl
 | some a=>exact h a
def mi{c:E}(h:mf c=false):mf (wX b c)=false:=by
 cases b using aG with
 | false=>rfl
 | true=>exact h
def LO{f:Expr->E}{a:Expr}{ops:List CmpOp}{bs:List Expr}:mf (wy f a ops bs)=false:=by
 cases ops using aw with
 | nil=>rfl
 | cons o ops=>cases bs using aw with
  | nil=>rfl
  | cons b bs=>cases ops using aw with
   | nil=>cases bs using aw with
    | nil=>exact mi rfl
    | cons zz zy=>rfl
   | cons o' ops=>cases bs using aw with
    | nil=>rfl
    | cons c bs=>cases ops using aw with
     | cons zz zy=>rfl
     | nil=>cases bs using aw with
      | cons zz zy=>rfl
      | nil=>exact mi (mi rfl)
def Ig{f:Expr->E}{cx:CX}{g:Expr}{args:List Expr}{p:Pos}:mf (tO f cx g args p)=false:=by
 cases g using bE with
 | Name g zz=>exact mi (kZ λv=>by induction v using Gv.casesOn <;> first | rfl | exact kZ λzz=>kZ λzz=>kZ λzz=>rfl)
 | Attribute o m apos=>
  refine mi (kZ λi=>?_);unfold Ft;cases BL o i args with
  | some zz=>rfl
  | none=>cases h:KL cx i args <;> rfl
 | _=>rfl
def BC{cx:CX}(h:Ko e=true\/ES e=true):mf (cp k cx e)=false:=by
 cases k using bM with
 | zero=>rfl
 | succ k=>
 cases e using bE with
 | BoolOp=>exact h.elim ct ct
 | IfExp=>exact h.elim ct ct
 | UnaryOp op a p=>induction op using UnaryOp.casesOn <;> first | rfl | exact h.elim ct ct
 | Constant c kd p=>induction c using Const.casesOn <;> rfl
 | Name x p=>
  show mf (ny cx x)=false;unfold ny;cases cx.slot x with
  | some zz=>rfl
  | none=>exact kZ λzz=>rfl
 | BinOp a op b p=>
  show mf (qe _ _ a op b)=false;unfold qe;cases Ir cx.nm a op b with
  | some zz=>rfl
  | none=>exact kZ λzz=>rfl
 | Compare a ops bs p=>exact LO
 | Attribute a f p=>exact mi (kZ λzz=>rfl)
 | List es p=>exact mi rfl
 | Tuple es kk p=>exact mi rfl
 | Dict ks vs p=>exact mi rfl
 | Subscript a b p=>
  show mf (qd _ a b)=false;unfold qd;cases mC b with
  | some zz=>exact mi rfl
  | none=>rfl
 | Call g args kws p=>cases kws using aw with
  | nil=>exact Ig
  | cons zz zy=>rfl
 | ListComp elt gens sc p=>
  refine kZ λc=>mi (kZ λzz=>kZ λzz=>mi ?_);cases nA cx Gv.isEnum c.iter with
  | some zz=>exact mi rfl
  | none=>rfl
 | _=>rfl
def Eb{m:Nat}{x:AV×Hp}{G:Prop}(h:(ev W.P m).e d ls H .fail=some x):G:=by
 induction m using bM <;> exact bg h
def zd{G:Prop}(h:mM (ev W.P n) d ls H .fail=some (b,H')):G:=cE (show((ev W.P n).e d ls H .fail).bind _=_ from h) λzz zy h1 zx=>Eb h1
def DK(IH:∀m,m<=n->Snd W (ev W.P m))(ok:CXOk W cx){op:BoolOp}{es:List Expr}{p:Pos}(h:mM (ev W.P n) d ls H (wX (cg 1 es.length) (jQ (Qr op) (es.map (cp k cx))))=some (b,H')):TB W d cx ls H (.BoolOp op es p) b H':=by
 have I:=(IH n (ay n)).t k cx
 cases es using aw with
 | nil=>exact zd h
 | cons e es=>cases es using aw with
  | nil=>exact zd h
  | cons e' es=>
   cases op using BoolOp.casesOn with
   | And=>
    refine cE (show((ev W.P n).t d ls H (cp k cx e)).bind _=_ from h) λq au h1 h=>?_;have t:=I e ok _ _ _ _ _ h1
    cases q using aG with
    | false=>exact du (G:=λb H'=>TB W d cx ls H _ b H') h (r8 (mu t))
    | true=>exact r8 (qY t (tQ IH ok (e'::es) n (ay n) (gd _ _) _ _ _ h))
   | Or=>
    refine cE (show((ev W.P n).t d ls H (cp k cx e)).bind _=_ from h) λq au h1 h=>?_;have t:=I e ok _ _ _ _ _ h1
    cases q using aG with
    | true=>exact du (G:=λb H'=>TB W d cx ls H _ b H') h (r8 (mu t))
    | false=>exact r8 (qY t (vd IH ok (e'::es) n (ay n) (gd _ _) _ _ _ h))
def xf(IH:∀m,m<=n->Snd W (ev W.P m))(k:Nat)(e:Expr)(ok:CXOk W cx)(h:mM (ev W.P n) d ls H (cp k cx e)=some (b,H')):TB W d cx ls H e b H':=by
 have S:=IH n (ay n);have R:=S.e k cx e ok;cases hv:Ko e with
 | true=>exact Jh h (BC (.inl hv)) λx h1 h2=>MG (R.ev _ _ _ _ _ h1) (Kp h2) (λenv whole=>z9 hv env whole)
 | false=>
  cases k using bM with
  | zero=>exact zd h
  | succ k=>
  cases e using bE with
  | BoolOp op es pos=>exact DK IH ok h
  | UnaryOp op a pos=>
   cases op using UnaryOp.casesOn with
   | Not=>
    refine kr (show((ev W.P n).t d ls H (cp k cx a)).map _=_ from h) λp h1 h2=>?_
    erw [<- (aD h2).1,<- (aD h2).2]
    exact MH (S.t k cx a ok _ _ _ _ _ h1)
   | _=>exact ct hv.symm
  | IfExp c a b' pos=>
   refine cE (show((ev W.P n).t d ls H (cp k cx c)).bind _=_ from h) λq au h1 h=>MI (S.t k cx c ok _ _ _ _ _ h1) ?_
   cases q using aG with
   | true=>exact S.t k cx a ok _ _ _ _ _ h
   | false=>exact S.t k cx b' ok _ _ _ _ _ h
  | Compare a ops bs pos=>exact Jh h (BC (.inr rfl)) λx h1 h2=>R.tb rfl _ _ _ _ _ _ h1 h2
  | _=>exact ct hv.symm
def vC(S:Snd W (ev W.P n))(k:Nat)(es:List Expr)(ok:CXOk W cx)(hs:es.all cv=true)(h:oE (ev W.P n) d ls H (es.map (cp k cx))=some (vs,H')):TL W d cx ls H es vs H':=by
 cases es using aw with
 | nil=>exact du (G:=λvs H'=>TL W d cx ls H [] vs H') h F5
 | cons e es=>
  refine cE (show((ev W.P n).e d ls H (cp k cx e)).bind _=_ from h) λv au h1 h=>kr h λp h2 h3=>?_
  erw [<- (aD h3).1,<- (aD h3).2]
  obtain⟨s1,s2⟩:=ae.mp hs;exact wG s1 ((S.e k cx e ok).ev _ _ _ _ _ h1) (S.es k cx es ok s2 _ _ _ _ _ h2)
def BR{δ:Type}{x:Option (α×β×γ)}{f:α×β×γ->Option δ}{c:δ}{G:Prop}(h:x.bind f=some c)(k:∀a b z,x=some (a,b,z)->f (a,b,z)=some c->G):G:=
 cK h λp h1 h2=>k p.1 p.2.1 p.2.2 h1 h2
def n7{a a':α}{b b':β}{c c':γ}{G:α->β->γ->Prop}(h:some (a,b,c)=some (a',b',c'))(k:G a b c):G a' b' c':=by
 have:=af h
 erw [<- (aD this).1,<- (aD (aD this).2).1,<- (aD (aD this).2).2]
 exact k
def vB(S:Snd W (ev W.P n))(k:Nat)(sts:List Stmt)(ok:CXOk W cx){fl:Fl}(h:oD (ev W.P n) d ls H (sts.map (ke k cx))=some (fl,ls',H')):vm W d cx ls H sts fl ls' H':=by
 cases sts using aw with
 | nil=>exact n7 (G:=λfl ls' H'=>vm W d cx ls H [] fl ls' H') h IY
 | cons st sts=>
  refine BR (show((ev W.P n).s d ls H (ke k cx st)).bind _=_ from h) λf l au h1 h=>?_;have t:=S.s k cx st ok _ _ _ _ _ _ h1
  cases f using Fl.casesOn with
  | next=>exact F4 t (S.ss k cx sts ok _ _ _ _ _ _ h)
  | cont=>exact n7 (G:=λfl ls' H'=>vm W d cx ls H _ fl ls' H') h (yO t (λe=>nomatch e))
  | ret v=>exact n7 (G:=λfl ls' H'=>vm W d cx ls H _ fl ls' H') h (yO t (λe=>nomatch e))
def kU{f:α->Option β}{x:α}{xs:List α}{ys:List β}(h:(x::xs).mapM f=some ys):∃y r,f x=some y/\xs.mapM f=some r/\ys=y::r:=by
 rw[List.mapM_cons]at h;exact cK h λy h1 h=>cK h λr h2 h=>(i7 y r h1 h2 ((af h).symm))
def ma{f:α->Option β}{ys:List β}(h:([]:List α).mapM f=some ys):ys= []:=by
 rw[List.mapM_nil]at h;exact(af h).symm
def xM{f:α->Option β}:∀{xs:List α} {ys:List β},xs.mapM f=some ys->xs.length=ys.length
 | [],ys,h=>by erw [ma h];rfl
 | x::xs,ys,h=>by
  refine dY (kU h) λy r zz h2 e=>?_
  erw [e,aJ,aJ,xM h2];rfl
def vD(S:Snd W (ev W.P n))(k:Nat)(ts:List Expr)(cs:List T)(ok:CXOk W cx)(hs:ts.all cv=true)(hc:ts.mapM (mO k cx)=some cs)(h:oF (ev W.P n) d ls H cs vs=some (ls',H')):J3 W d cx ls H ts vs ls' H'/\cs.length=vs.length:=by
 cases ts using aw with
 | nil=>
  rw[ma hc]at h |-
  cases vs using aw with
  | nil=>exact du (G:=λls' H'=>J3 W d cx ls H [] [] ls' H'/\_) h ⟨BY,rfl⟩
  | cons zz zy=>exact bg h
 | cons t ts=>
  refine dY (kU hc) λc cs' c1 c2 e=>?_;rw[e]at h |-
  cases vs using aw with
  | nil=>exact bg h
  | cons v vs=>
   refine cE (show((ev W.P n).asg d ls H c v).bind _=_ from h) λl au h1 h2=>?_;obtain⟨s1,s2⟩:=ae.mp hs;obtain⟨t2,e2⟩:=S.asgs k cx ts cs' ok s2 c2 _ _ _ _ _ _ h2;exact⟨yQ s1 (S.asg k cx t c ok c1 _ _ _ _ _ _ h1) t2,congrArg (· +1) e2⟩
def qD{o:Option α}{k:α->β}{c:β}(h:KM b o k=some c):b=true/\∃a,o=some a/\k a=c:=by
 induction b using aG
 ·exact bg h
 ·exact⟨rfl,bL.mp h⟩
def xj(W1:W.Ok)(S:Snd W (ev W.P n))(k:Nat)(t:Expr)(c:T)(ok:CXOk W cx)(hc:mO k cx t=some c){v:AV}(h:sF W.P (ev W.P n) d ls H c v=some (ls',H')):TA W d cx ls H t v ls' H':=by
 have I:=λe=>S.e 100 cx e ok
 cases k using bM with
 | zero=>exact bg hc
 | succ k=>
 cases t using bE with
 | Name x pos=>
  refine kr hc λi hi e=>?_;rw[<- e]at h;exact vW (f:=id) (G:=λls' H'=>TA W d cx ls H _ v ls' H') h λl h1=>wI ok hi h1
 | Attribute a f pos=>
  obtain⟨_,i,hi,e⟩:=qD hc;rw[<- e]at h;refine cE (show((ev W.P n).e d ls H (cp 100 cx a)).bind _=_ from h) λx au h1 h=>kr h λaP h2 h3=>?_
  erw [<- (aD h3).1,<- (aD h3).2]
  exact I8 W1.top W1.cl (ok.nm ▸nN hi) ((I a).ev _ _ _ _ _ h1) h2
 | Subscript a b pos=>
  replace hc:(match mC b with | some zz=>none | none=>some (T.idx (cp 100 cx a) (cp 100 cx b)))=some c:=hc;cases hz:mC b with
  | some z=>rw[hz]at hc;exact bg hc
  | none=>
   rw[hz]at hc;rw[<- af hc]at h;refine cE (show((ev W.P n).e d ls H (cp 100 cx a)).bind _=_ from h) λx au h1 h=>cE h λy aP h2 h=>kr h λdM h3 h4=>?_
   erw [<- (aD h4).1,<- (aD h4).2]
   exact MK ((I a).ev _ _ _ _ _ h1) ((I b).ev _ _ _ _ _ h2) h3
 | Tuple ts kk pos=>
  obtain⟨hs,cs,h1,e⟩:=qD hc;rw[<- e]at h
  cases v using AV.casesOn with
  | U vs=>
   obtain⟨t2,e2⟩:=S.asgs k cx ts cs ok hs h1 _ _ _ _ _ _ h;exact Gb (.inl (bI vs rfl rfl)) hs ((xM h1).trans e2) t2
  | _=>exact bg h
 | _=>exact bg hc
end
end
section
mutual
variable{ls':Ls}{v:AV}{pt:PT}{t:Expr}{sc:Scope}{it:It}{b:List Stmt}
variable{W:Wd}{n:Nat}{d:Nat}{cx:CX}{ls:Ls}{H H':Hp}
def xH{P:Expr->AV->Ls->Ls->Prop}{Q:List Expr->List AV->Ls->Ls->Prop}{sl:Str->Option Nat}(hn:∀ls,Q [] [] ls ls)(hc:∀x p i v vs es ls l ls',sl x=some i->jh ls i v=some l->Q es vs l ls'->Q (.Name x p::es) (v::vs) ls ls'):∀(es:List Expr) (is:List Nat) (vs:List AV) (ls ls':Ls),es.mapM (λe=>(jL e).bind sl)=some is->fo ls is vs=some ls'->es.all cv=true/\es.length=vs.length/\Q es vs ls ls'
 | [],is,vs,ls,ls',h,g=>by
  rw[ma h]at g
  cases vs using aw with
  | nil=>erw [<- af g];exact eD rfl rfl (hn _)
  | cons zz zy=>exact bg g
 | e::es,is,vs,ls,ls',h,g=>by
  refine dY (kU h) λi r h1 h2 e1=>?_;rw[e1]at g
  cases vs using aw with
  | nil=>exact bg g
  | cons v vs=>
   refine cK h1 λx h3 h4=>cK g λl g1 g2=>?_;obtain⟨p,e2⟩:=lI h3;refine kI (xH (P:=P) hn hc es r vs l ls' h2 g2) λa b c=>?_
   erw [e2]
   exact eD a (congrArg (· +1) b) (hc _ _ _ _ _ _ _ _ _ h4 g1 c)
abbrev TG(H:Hp)(v:AV)(vs:List AV):Prop:=(∃ws,v= .U ws/\ws=vs)\/∃k,v= .ref k/\aF H k=some vs
def rE{is:List Nat}(h:jd H ls (.many is) v=some ls'):∃vs,TG H v vs/\fo ls is vs=some ls':=by
 cases v using AV.casesOn with
 | U vs=>exact bI vs (.inl (bI vs rfl rfl)) h
 | ref k=>exact cK (show(aF H k).bind _=_ from h) λvs h1 h2=>(bI vs (.inr (bI k rfl h1)) h2)
 | _=>exact bg h
def xx(h:rK cx t=some pt){p:Prop}(kN:∀x pos i,t= .Name x pos->cx.slot x=some i->pt= .one i->p)(kT:∀es k pos is,t= .Tuple es k pos->(es.mapM λe=>(jL e).bind cx.slot)=some is->pt= .many is->p):p:=by
 cases t using bE with
 | Name x pos=>exact kr h λi h1 h2=>kN x pos i rfl h1 h2.symm
 | Tuple es k pos=>exact kr h λis h1 h2=>kT es k pos is rfl h1 h2.symm
 | _=>exact dA h
def C6(ok:CXOk W cx)(hp:rK cx t=some pt)(h:jd H ls pt v=some ls'):TA W d cx ls H t v ls' H:=by
 refine xx hp (λx p i et hi e=>?_) λes k p is et hi e=>?_
 ·rw[e]at h;erw [et];exact wI ok hi h
 ·rw[e]at h
  erw [et]
  refine aM (rE h) λvs hu h1=>?_;refine kI (xH (P:=λzz zy zx zw=>True) (Q:=λes vs ls ls'=>J3 W d cx ls H es vs ls' H) (λzz=>BY) (λx p i v vs es ls l ls' h1 h2 h3=>yQ rfl (wI ok h1 h2) h3) _ _ _ _ _ hi h1) λa b c=>?_;exact Gb hu a b c
def xB(hs:ScF cx sc pt){x:Str}{i:Nat}(hx:(cx.inner sc).slot x=some i)(hi:i∈pt.slots)(ok:CXOk W cx):(cx.inner sc).slots.lookup x=some i/\(cx.inner sc).scope.names.lookup x=some .local:=by
 have h:=(jt hx).2;refine⟨h,?_⟩;rcases jy cx sc h with⟨a,b,c⟩ | ⟨a,b⟩
 ·have hm:=bN c;unfold pG at hm;refine aM (cN.mp hm) λxq1 hy e=>?_;obtain⟨y,k⟩:=xq1;obtain⟨hy1,hy2⟩:=List.mem_filter.mp hy;have:=hs.names _ hy1 (beq_iff_eq.mp (ae.mp hy2).1)
  erw [pQ,<- e,this,beq_iff_eq.mp (ae.mp hy2).1]
  rfl
 ·exact absurd (ok.lt _ _ a) (iA.mpr (hs.new i hi))
def AC(ok:CXOk W cx)(hs:ScF cx sc pt)(hp:rK (cx.inner sc) t=some pt)(h:jd H ls pt v=some ls'):I7 W (cx.inner sc) ls H t v ls':=by
 refine xx hp (λx p i et hi e=>?_) λes k p is et hi e=>?_
 ·rw[e]at h hs;obtain⟨k1,k2⟩:=xB hs hi (.head _) ok
  erw [et];exact yP (pP ok hs) k1 k2 h
 ·rw[e]at h hs
  erw [et]
  refine aM (rE h) λvs hu h1=>?_;have key:∀(es:List Expr) (is':List Nat) (vs:List AV) (ls ls':Ls),(∀i∈is',i∈is)->es.mapM (λe=>(jL e).bind (cx.inner sc).slot)=some is'->fo ls is' vs=some ls'->es.all cv=true/\es.length=vs.length/\Ga W (cx.inner sc) ls H es vs ls':=by
   intro es
   induction es with
   | nil=>
    intro is' vs ls ls' zz h g
    rw[ma h]at g
    cases vs using aw with
    | nil=>erw [<- af g];exact eD rfl rfl F9
    | cons zz zy=>exact bg g
   | cons e es ih=>
    intro is' vs ls ls' hm h g
    refine dY (kU h) λi r h1 h2 e1=>?_
    rw[e1]at g hm
    cases vs using aw with
    | nil=>exact bg g
    | cons v vs=>
     refine cK h1 λx h3 h4=>cK g λl g1 g2=>?_
     obtain⟨p,e2⟩:=lI h3
     refine kI (ih r vs l ls' (λj hj=>hm j (.tail _ hj)) h2 g2) λa b c=>?_
     obtain⟨k1,k2⟩:=xB hs h4 (hm i (.head _)) ok
     erw [e2]
     exact eD a (congrArg (· +1) b) (C8 rfl (yP (pP ok hs) k1 k2 g1) c)
  refine kI (key _ _ _ _ _ (λzz h=>h) hi h1) λa b c=>?_;exact I6 hu a b c
def uf(S:Snd W (ev W.P n))(k:Nat)(t:Expr)(pt:PT)(b:List Stmt)(ok:CXOk W cx)(hp:rK cx t=some pt){fl:Fl}(h:mB (ev W.P n) d ls H it pt (b.map (ke k cx))=some (fl,ls',H')):∃m,FRun W d cx t b m ls H it fl ls' H':=by
 refine cK (show(it.next H).bind _=_ from h) λo h1 h=>?_
 cases o using bf with
 | none=>exact n7 (G:=λfl ls' H'=> ∃m,FRun W d cx t b m ls H it fl ls' H') h ⟨0, .done h1⟩
 | some p=>
  obtain⟨v,it'⟩:=p;refine cK (show(jd H ls pt v).bind _=_ from h) λl h2 h=>BR h λf vX aP h3 h=>?_;have ta:=C6 (d:=d) ok hp h2;have ts:=S.ss k cx b ok _ _ _ _ _ _ h3
  cases f using Fl.casesOn with
  | ret w=>exact n7 (G:=λfl ls' H'=> ∃m,FRun W d cx t b m ls H it fl ls' H') h ⟨0, .ret h1 ta ts⟩
  | next=>obtain⟨m,hm⟩:=S.for_ k cx t pt b ok hp _ _ _ _ _ _ _ h;exact⟨m+1, .turn h1 ta ts (.inl rfl) hm⟩
  | cont=>obtain⟨m,hm⟩:=S.for_ k cx t pt b ok hp _ _ _ _ _ _ _ h;exact⟨m+1, .turn h1 ta ts (.inr rfl) hm⟩
def sD(S:Snd W (ev W.P n))(k:Nat)(sc:Scope)(t:Expr)(pt:PT)(ce:Option Expr)(ee:Expr)(ok:CXOk W cx)(hs:ScF cx sc pt)(hp:rK (cx.inner sc) t=some pt){j:Nat}
  (h:kJ (ev W.P n) d ls H it pt (ce.map (cp k (cx.inner sc))) (cp k (cx.inner sc) ee) j=some H'):∃m,CRun W d (cx.inner sc) t ce ee j m ls H it H':=by
 refine cK (show(it.next H).bind _=_ from h) λo h1 h=>?_
 cases o using bf with
 | none=>erw [<- af h];exact⟨0, .done h1⟩
 | some p=>
  obtain⟨v,it'⟩:=p;refine cK (show(jd H ls pt v).bind _=_ from h) λl h2 h=>cE h λq au h3 h=>?_;have ta:=AC ok hs hp h2;have ok':=pP ok hs;have cond:(ce=none/\q=true/\au=H)\/∃e,ce=some e/\TB W d (cx.inner sc) l H e q au:=by
   cases ce using bf with
   | none=>exact .inl (eD rfl ((aD (af h3)).1.symm) ((aD (af h3)).2.symm))
   | some e=>exact .inr (bI e rfl (S.t k _ e ok' _ _ _ _ _ h3))
  cases q using aG with
  | false=>
   obtain⟨m,hm⟩:=S.comp k cx sc t pt ce ee ok hs hp _ _ _ _ _ _ h;rcases cond with⟨_,e,_⟩ | ⟨e,he,hb⟩
   ·exact ct e
   ·exact⟨m+1, .skip h1 ta he hb hm⟩
  | true=>
   refine cE (show((ev W.P n).e d l au (cp k (cx.inner sc) ee)).bind _=_ from h) λx aP h4 h=>cE h λu dM h5 h=>?_;obtain⟨m,hm⟩:=S.comp k cx sc t pt ce ee ok hs hp _ _ _ _ _ _ h;exact⟨m+1, .take h1 ta (cond.imp (λxq2=>kI xq2 λa zz b=>⟨a,b⟩) id) ((S.e k _ ee ok').ev _ _ _ _ _ h4) h5 hm⟩
def GU{fl:Fl}{G:Prop}(h:(ev W.P n).ss d ls H [.fail]=some (fl,ls',H')):G:=by
 cases n using bM with
 | zero=>exact bg h
 | succ n=>exact cK (show((ev W.P n).s d ls H .fail).bind _=_ from h) λzz h1 zy=>by induction n using bM <;> exact bg h1
def sE(W1:W.Ok)(S:Snd W (ev W.P n)){f:Nat}{args:List AV}(h:iE W.P (ev W.P n) d H f args=some (v,H')):j3 W d H f args v H'/\∀F,W.P.fns[f]? =some F->F.body≠ [.fail]:=by
 unfold iE at h
 cases d using bM with
 | zero=>exact bg h
 | succ d'=>
 cases hF:W.P.fns[f]? with
 | none=>rw[hF]at h;exact bg h
 | some F=>
  rw[hF]at h
  try dsimp only at h
  cases hl:((args++F.dfl.drop (F.dfl.length-(F.np-args.length))).length==F.np)with
  | false=>rw[hl]at h;exact bg h
  | true=>
   rw[hl]at h;refine BR h λfl ls' au h1 h=>?_;have nf:F.body≠ [.fail]:=λe=>by rw[e]at h1;exact GU h1
   rcases W1.fns f F hF with e | ⟨a,fd,body,ha,ok⟩
   ·exact absurd e nf
   ·refine⟨?_,λF' hF'=>af hF' ▸nf⟩;rw[(u6 F ok.fn).2.2]at h1;have ts:=S.ss 40 _ body (Ib W (fd.params.args.map (·.arg)) fd.scope) _ _ _ _ _ _ h1
    cases fl using Fl.casesOn with
    | ret w=>exact du (G:=λv H'=>j3 W (d'+1) H f args v H') h (Of d' a F fd body _ _ ls' rfl ha ok rfl (beq_iff_eq.mp hl) ts (.inl rfl))
    | next=>exact du (G:=λv H'=>j3 W (d'+1) H f args v H') h (Of d' a F fd body _ _ ls' rfl ha ok rfl (beq_iff_eq.mp hl) ts (.inr ⟨rfl,rfl⟩))
    | cont=>exact bg h
def Ms{Oi:ExceptHandler}{hs:List ExceptHandler}{pos:Pos}{fl:Fl}(h:vm W d cx ls H b fl ls' H'):TS W d cx ls H (.Try b (Oi::hs) [] [] pos) fl ls' H':=by
 intro A B ρ fr F env s hA hB hE hF hR;refine wpAny_Try_except (dO (h A B ρ fr F env s hA hB hE hF hR) (λr s' z=>?_) λzz zy e=>e.elim);refine jX (id z) λB' ρ' fr' g R rr f q=>?_
 induction q using FlR.casesOn
 ·exact wpAny_execs_nil z
 ·exact z
 ·exact z
def qr(IH:∀m,m<=n->Snd W (ev W.P m)){k:Nat}{c:Expr}(ok:CXOk W cx):∀(m:Nat) (ls:Ls) (H:Hp) (fl:Fl) (ls':Ls),m<=n->pz (ev W.P m) d ls H (.while (cp 100 cx c) (b.map (ke k cx)))=some (fl,ls',H')->∃w,WRun W d cx c b w ls H fl ls' H'
 | 0,ls,H,fl,ls',hm,h=>bg h
 | m+1,ls,H,fl,ls',hm,h=>cE (show((ev W.P (m+1)).t d ls H (cp 100 cx c)).bind _=_ from h) λq au h1 h=>by
  have S:=IH (m+1) hm;have t:=S.t 100 cx c ok _ _ _ _ _ h1
  cases q using aG with
  | false=>exact n7 (G:=λfl ls' H'=> ∃w,WRun W d cx c b w ls H fl ls' H') h ⟨0, .done t⟩
  | true=>
   refine BR (show((ev W.P (m+1)).ss d ls au (b.map (ke k cx))).bind _=_ from h) λf l aP h2 h=>?_;have ts:=S.ss k cx b ok _ _ _ _ _ _ h2
   cases f using Fl.casesOn with
   | ret w=>exact n7 (G:=λfl ls' H'=> ∃w,WRun W d cx c b w ls H fl ls' H') h ⟨0, .ret t ts⟩
   | next=>obtain⟨w,hw⟩:=qr IH ok m l aP fl ls' (dh hm) h;exact⟨w+1, .turn t ts (.inl rfl) hw⟩
   | cont=>obtain⟨w,hw⟩:=qr IH ok m l aP fl ls' (dh hm) h;exact⟨w+1, .turn t ts (.inr rfl) hw⟩
end
end
section
mutual
variable{e t:Expr}{st:Stmt}{k:Nat}{α:Type}
variable{W:Wd}{n:Nat}{d:Nat}{cx:CX}{ls:Ls}{H H':Hp}
def vi:∀(m:Nat) (is:List Nat) (vs:List AV) (ls ls':Ls),(ev W.P m).asgs d ls H (is.map .v) vs=some (ls',H')->fo ls is vs=some ls'/\H'=H
 | 0,_,_,_,_,h=>bg h
 | m+1,[],[],ls,ls',h=>⟨congrArg some (aD (af h)).1,(aD (af h)).2.symm⟩
 | m+1,[],_::_,_,_,h=>bg h
 | m+1,_::_,[],_,_,h=>bg h
 | m+1,i::is,v::vs,ls,ls',h=>cE (show((ev W.P m).asg d ls H (.v i) v).bind _=_ from h) λl au h1 h2=>by
  cases m using bM with
  | zero=>exact bg h1
  | succ m=>
   refine kr (show(jh ls i v).map _=_ from h1) λl' h3 h4=>?_;rw[<- (aD h4).2]at h2;obtain⟨e1,e2⟩:=vi (m+1) is vs l ls' h2;refine⟨?_,e2⟩;show(jh ls i v).bind _=_
   erw [h3,(aD h4).1]
   exact e1
def ro:∀(ts:List Expr) (ns:List Str) (cs:List T),ns.map some=ts.map jL->ts.mapM (mO (k+1) cx)=some cs->∃is:List Nat,cs=is.map .v/\ns.map cx.slot=is.map some
 | [],[],cs,_,h=>(bI ([]) (ma h) rfl)
 | [],_::_,_,e,_=>nomatch e
 | _::_,[],_,e,_=>nomatch e
 | t::ts,x::ns,cs,e,h=>by
  refine dY (kU h) λc r h1 h2 e1=>?_;obtain⟨e2,e3⟩:=dC e;obtain⟨p,e4⟩:=lI e2.symm;rw[e4]at h1;refine kr h1 λi hi e5=>?_;refine aM (ro ts ns r e3 h2) λis e6 e7=>?_;exact bI (i::is) (by erw [e1,e6,<- e5];rfl) (by erw [bp,bp,hi,e7];rfl)
def rj(ok:CXOk W cx):∀(ns:List Str) (is:List Nat),ns.Nodup->ns.map cx.slot=is.map some->is.Nodup
 | [],[],_,_=>List.nodup_nil
 | [],_::_,_,h=>nomatch h
 | _::_,[],_,h=>nomatch h
 | x::ns,i::is,hn,h=>by
  obtain⟨h1,h2⟩:=dC h;obtain⟨n1,n2⟩:=bS.mp hn;refine bS.mpr ⟨λhm=>?_,rj ok ns is n2 h2⟩;have hm:=jJ (f:=some) hm;rw[<- h2]at hm;refine aM (cN.mp hm) λy hy e=>?_;exact n1 (ok.inj _ _ _ (jt e).2 (jt h1).2 ▸hy)
noncomputable abbrev RS(W:Wd)(n:Nat)(cx:CX)(st:Stmt)(c:S):Prop:= ∀d ls H fl ls' H',pz (ev W.P n) d ls H c=some (fl,ls',H')->TS W d cx ls H st fl ls' H'
def vG:RS W n cx st .fail:=λzz zy zx zw zv zu h=>bg h
def zh{o:Option α}{k:α->S}(h:∀a,o=some a->RS W n cx st (k a)):RS W n cx st (G9 o k):=by
 cases o using bf with
 | none=>exact vG
 | some a=>exact h a rfl
def Jj{b:Bool}{c:S}(h:b=true->RS W n cx st c):RS W n cx st (QE b c):=by
 cases b using aG with
 | false=>exact vG
 | true=>exact h rfl
def NV{β γ δ:Type}{x:Option (α×β)}{f:α->β->γ}{l l':δ}{fl:γ}{H:β}{G:γ->δ->β->Prop}(h:(x.map λp=>(f p.1 p.2,l,p.2))=some (fl,l',H))(k:∀v H,x=some (v,H)->G (f v H) l H):G fl l' H:=
 kr h λp h1 h2=>by
  erw [<- (aD h2).1,<- (aD (aD h2).2).1,<- (aD (aD h2).2).2]
  exact k _ _ h1
def GQ{c:E}{p:Pos}(hp:kO e=true)(he:RE W (ev W.P n).e cx e c):RS W n cx (.Expr e p) (.expr c):=λd ls H fl ls' H' h=>
 NV (f:=λzz zy=>Fl.next) (G:=λfl ls' H'=>TS W d cx ls H _ fl ls' H') h λv H h1=>IW hp (he.ev _ _ _ _ _ h1)
def Kt{c:E}{p:Pos}(he:RE W (ev W.P n).e cx e c):RS W n cx (.Return (some e) p) (.ret c):=λd ls H fl ls' H' h=>
 NV (f:=λv zz=>Fl.ret v) (G:=λfl ls' H'=>TS W d cx ls H _ fl ls' H') h λv H h1=>Mt (he.ev _ _ _ _ _ h1)
def nU{d:Nat}{ls:Ls}{H:Hp}{c:T}{ce:E}{fl:Fl}{ls':Ls}{H':Hp}{G:Fl->Ls->Hp->Prop}(h:pz (ev W.P n) d ls H (.aS c ce)=some (fl,ls',H'))(k:∀v au ls' H',(ev W.P n).e d ls H ce=some (v,au)->(ev W.P n).asg d ls au c v=some (ls',H')->G .next ls' H'):G fl ls' H':=
 cE (show((ev W.P n).e d ls H ce).bind _=_ from h) λv au h1 h=>kr h λp h2 h3=>by
  erw [<- (aD h3).1,<- (aD (aD h3).2).1,<- (aD (aD h3).2).2]
  exact k v au _ _ h1 h2
def n9{c:T}(h:mO k cx t=some c):cv t=true:=by
 cases k using bM with
 | zero=>exact bg h
 | succ k=>induction t using bE <;> first | rfl | exact bg h
def GL(S:Snd W (ev W.P n))(ok:CXOk W cx){us vs:List Expr}{kk k':Nat}{p p' pos:Pos}{c:T}{ns:List Str}(hw:jr cx.scope us vs=some (some ns))(s1:ns.Nodup)(s2:ns.map some=us.map jL)(hc:mO 10 cx (.Tuple us kk p)=some c):
  RS W n cx (.Assign [.Tuple us kk p] (.Tuple vs k' p') pos) (.aS c (cp 100 cx (.Tuple vs k' p'))):=λd ls H fl ls' H' h=>
 nU (G:=λfl ls' H'=>TS W d cx ls H _ fl ls' H') h λv au ls' H' h1 h2=>by
  have R:=S.e 100 cx (.Tuple vs k' p') ok;obtain⟨us',e⟩:=R.tv rfl _ _ _ _ _ h1;rw[e]at h1 h2;obtain⟨_,cs,h3,e3⟩:=qD hc;refine aM (ro us ns cs s2 h3) λis e4 e5=>?_;rw[<- e3,e4]at h2
  cases n using bM with
  | zero=>exact bg h1
  | succ m=>
   obtain⟨q1,q2⟩:=vi m is us' ls ls' h2
   erw [q2]
   exact tX ok hw e5 (rj ok ns is s1 e5) (R.ev _ _ _ _ _ h1) q1
def DQ(S:Snd W (ev W.P n))(ok:CXOk W cx){c:T}{pos:Pos}(hc:mO 10 cx t=some c)(hp:kO e=true)(hw:∀env,EnvOk cx env->swappedStores [t] e env=pure none):RS W n cx (.Assign [t] e pos) (.aS c (cp 100 cx e)):=λd ls H fl ls' H' h=>
 nU (G:=λfl ls' H'=>TS W d cx ls H _ fl ls' H') h λv au ls' H' h1 h2=>
  vl (n9 hc) ((S.e 100 cx e ok).ev _ _ _ _ _ h1) (S.asg 10 cx t c ok hc _ _ _ _ _ _ h2) (λzz zy=>rf hp _ _ _) hw
def Hr(t:Expr):(∃x p,t= .Name x p)\/∀x p,t≠ .Name x p:=by
 cases t using bE with | Name x p=>exact .inl (uj x p rfl) | _=>exact .inr λzz zy e=>nomatch e
def xc(t:Expr):(∃es k p,t= .Tuple es k p)\/∀es k p,t≠ .Tuple es k p:=by
 cases t using bE with | Tuple x p q=>exact .inl (HR x p q rfl) | _=>exact .inr λzz zy zx e=>nomatch e
def DP(W1:W.Ok)(S:Snd W (ev W.P n))(ok:CXOk W cx){c:T}{pos:Pos}(hc:mO 10 cx t=some c)(hl:LB e=true):RS W n cx (.Assign [t] e pos) (.aS c (cp 100 cx e)):=λd ls H fl ls' H' h=>
 nU (G:=λfl ls' H'=>TS W d cx ls H _ fl ls' H') h λv au ls' H' h1 h2=>by
  have R:=S.e 100 cx e ok;obtain⟨elt,gens,sc,lp,e1,tt,it,ifs,pt,q,dM,i,m,b0,b1,b2,b3,b4,b5,b6,ce,b7,b8⟩:=R.lc hl _ _ _ _ _ h1;have te:=R.ev _ _ _ _ _ h1;rw[e1,b0]at te |-
  have gen:(∀x p,t≠ .Name x p)->TS W d cx ls H (.Assign [t] (.ListComp elt [⟨tt,it,ifs,0⟩] sc lp) pos) .next ls' H':=λhx=>
   vl (n9 hc) te (S.asg 10 cx t c ok hc _ _ _ _ _ _ h2) (λenv zz=>by induction t using bE <;> first | rfl | exact absurd rfl (hx _ _)) λenv zz=>by induction t using bE <;> rfl
  rcases Hr t with⟨x,p,et⟩ | ht
  ·rw[et]at hc |-
   refine kr hc λj hj e=>?_;rw[<- e,b4]at h2
   cases n using bM with
   | zero=>exact bg h1
   | succ k=>exact vW (f:=id) (x:=jh ls j (.ref dM.length)) (G:=λls' H'=>TS W d cx ls H _ .next ls' H') h2 λl h3=>tY W1.cl ok b1 b7 b3 b2 b5 b6 b8 hj h3
  ·exact gen ht
def IB(h:kO e=false){p:Prop}(k:∀elt gens sc lp,e= .ListComp elt gens sc lp->p)(k0:cp 100 cx e= .fail->p):p:=by
 cases e using bE with
 | ListComp elt gens sc lp=>exact k _ _ _ _ rfl
 | SetComp=>exact k0 rfl
 | DictComp=>exact k0 rfl
 | _=>exact ct h.symm
def Ca(W1:W.Ok)(S:Snd W (ev W.P n))(ok:CXOk W cx){pos:Pos}(hsw:DG cx.scope t e=true){c:T}(hc:mO 10 cx t=some c):RS W n cx (.Assign [t] e pos) (.aS c (cp 100 cx e)):=by
 cases hp:kO e with
 | true=>
  have other:(∀ts k p,t= .Tuple ts k p->∀vs k' p',e≠ .Tuple vs k' p')->RS W n cx (.Assign [t] e pos) (.aS c (cp 100 cx e)):=λhn=>DQ S ok hc hp λenv zz=>ud hn λes p ht=>by
   rw[ht]at hc
   exact bg hc
  rcases xc t with⟨us,kk,p,et⟩ | ht
  ·rcases xc e with⟨vs,k',p',ee⟩ | he
   ·rw[et]at hc;rw[et,ee]at hsw |-
    replace hsw:(match jr cx.scope us vs with | none=>false | some none=>true | some (some ns)=>decide ns.Nodup && decide (ns.map some=us.map jL))=true:=hsw;cases hw:jr cx.scope us vs with
    | none=>rw[hw]at hsw;exact ct hsw
    | some o=>cases o using bf with
     | none=>exact DQ S ok hc rfl λenv hE=>so hE.scope hE.kind hw
     | some ns=>
      rw[hw]at hsw;obtain⟨s1,s2⟩:=ae.mp hsw;exact GL S ok hw (of_decide_eq_true s1) (of_decide_eq_true s2) hc
   ·exact other λzz zy zx zw=>he
  ·exact other λzz zy zx e=>absurd e (ht _ _ _)
 | false=>
  refine IB (cx:=cx) hp (λelt gens sc lp e=>?_) λh0=>?_
  ·erw [e];exact DP W1 S ok hc rfl
  ·exact λd ls H fl ls' H' h=>nU (G:=λfl ls' H'=>TS W d cx ls H _ fl ls' H') h λzz zy zx zw h1 zv=>Eb (h0 ▸h1)
def xh(W1:W.Ok)(IH:∀m,m<=n->Snd W (ev W.P m))(k:Nat)(st:Stmt)(ok:CXOk W cx):RS W n cx st (ke k cx st):=by
 have S:=IH n (ay n);have I:=λe=>S.e 100 cx e ok
 cases k using bM with
 | zero=>exact vG
 | succ k=>
 cases st using Stmt.casesOn with
 | Expr e pos=>exact Jj λhp=>GQ hp (I e)
 | Return e pos=>
  cases e using bf with
  | none=>exact λd ls H fl ls' H' h=>n7 (G:=λfl ls' H'=>TS W d cx ls H _ fl ls' H') h IU
  | some e=>exact Kt (I e)
 | Pass pos=>exact λd ls H fl ls' H' h=>n7 (G:=λfl ls' H'=>TS W d cx ls H _ fl ls' H') h IV
 | Continue pos=>exact λd ls H fl ls' H' h=>n7 (G:=λfl ls' H'=>TS W d cx ls H _ fl ls' H') h IX
 | If c a b pos=>
  intro d ls H fl ls' H' h;refine cE (show((ev W.P n).t d ls H (cp 100 cx c)).bind _=_ from h) λq au h1 h=>Mu (S.t 100 cx c ok _ _ _ _ _ h1) ?_
  cases q using aG with
  | true=>exact S.ss k cx a ok _ _ _ _ _ _ h
  | false=>exact S.ss k cx b ok _ _ _ _ _ _ h
 | While c b o pos=>
  cases o using aw with
  | cons zz zy=>exact vG
  | nil=>exact λd ls H fl ls' H' h=>Ki (qr IH ok n ls H fl ls' (ay n) h) λw hw=>FZ hw
 | For t src b o pos=>
  cases o using aw with
  | cons zz zy=>exact vG
  | nil=>
   refine zh λpt hp d ls H fl ls' H' h=>cE (show((ev W.P n).e d ls H (cp 100 cx src)).bind _=_ from h) λx au h1 h=>?_
   try dsimp only at h
   cases hi:gC au x with
   | none=>rw[hi]at h;exact bg h
   | some it=>
    rw[hi]at h;obtain⟨m,hm⟩:=S.for_ k cx t pt b ok hp _ _ _ _ _ _ _ h;exact Mv ((I src).ev _ _ _ _ _ h1) hi ((I src).fs _ _ _ _ h1) hm
 | Try b hs o f pos=>
  cases hs using aw with
  | nil=>exact vG
  | cons Oi hs=>
   cases o using aw with
   | cons zz zy=>exact vG
   | nil=>cases f using aw with
    | cons zz zy=>exact vG
    | nil=>exact λd ls H fl ls' H' h=>Ms (S.ss k cx b ok _ _ _ _ _ _ h)
 | Assign ts e pos=>
  refine zh λt ht=>?_
  erw [kC ht]
  exact Jj λhsw=>zh λc hc=>Ca W1 S ok hsw hc
 | _=>exact vG
def C5:Snd W .bot:=⟨λzz zy zx zw=>⟨λzz zy zx zw zv h=>bg h,λzz zy zx zw h=>bg h,λzz zy zx zw zv zu zt h=>bg h,λzz zy zx zw zv zu h=>bg h,λzz zy zx zw zv zu h=>bg h⟩,λzz zy zx zw zv zu zt zs zr zq h=>bg h,λzz zy zx zw zv zu zt zs zr h=>bg h,λzz zy zx zw zv zu zt zs zr zq h=>bg h,λzz zy zx zw zv zu zt zs zr zq h=>bg h,λzz zy zx zw zv zu zt zs zr zq zp zo h=>bg h,λzz zy zx zw zv zu zt zs zr zq zp zo zn h=>bg h,λzz zy zx zw zv zu h=>bg h,λzz zy zx zw zv zu zt zs zr zq zp zo zn zm h=>bg h,λzz zy zx zw zv zu zt zs zr zq zp zo zn zm zl zk h=>bg h⟩
end
end
mutual
def NA{W:Wd}(W1:W.Ok)(n:Nat):Snd W (ev W.P n):=by
 cases n using Nat.strongRecOn with
 | _ n ih=>
 cases n using bM with
 | zero=>exact C5
 | succ n=>
  have IH:∀m,m<=n->Snd W (ev W.P m):=λm hm=>ih m (lg hm);have S:=IH n (ay n);exact⟨λk cx e ok=>xi W1 IH k e ok,λk cx es ok hs d ls H vs H' h=>vC S k es ok hs h,λk cx e ok d ls H b H' h=>xf IH k e ok h,λk cx st ok=>xh W1 IH k st ok,λk cx sts ok d ls H fl ls' H' h=>vB S k sts ok h,λk cx t c ok hc d ls H v ls' H' h=>xj W1 S k t c ok hc h,λk cx ts cs ok hs hc d ls H vs ls' H' h=>vD S k ts cs ok hs hc h,λd H f args v H' h=>sE W1 S h,λk cx t pt b ok hp d ls H it fl ls' H' h=>uf S k t pt b ok hp h,λk cx sc t pt ce ee ok hs hp d ls H it j H' h=>sD S k sc t pt ce ee ok hs hp h⟩
end
end Mine.Internal
end
section
namespace Mine.Internal
mutual
variable{β:Type}
structure Ev.Le(r r':Ev):Prop where
 e:∀{d ls H c a},r.e d ls H c=some a->r'.e d ls H c=some a
 es:∀{d ls H c a},r.es d ls H c=some a->r'.es d ls H c=some a
 t:∀{d ls H c a},r.t d ls H c=some a->r'.t d ls H c=some a
 s:∀{d ls H c a},r.s d ls H c=some a->r'.s d ls H c=some a
 ss:∀{d ls H c a},r.ss d ls H c=some a->r'.ss d ls H c=some a
 asg:∀{d ls H c v a},r.asg d ls H c v=some a->r'.asg d ls H c v=some a
 asgs:∀{d ls H c v a},r.asgs d ls H c v=some a->r'.asgs d ls H c v=some a
 call:∀{d H f v a},r.call d H f v=some a->r'.call d H f v=some a
 for_:∀{d ls H i t b a},r.for_ d ls H i t b=some a->r'.for_ d ls H i t b=some a
 comp:∀{d ls H i t c x k a},r.comp d ls H i t c x k=some a->r'.comp d ls H i t c x k=some a
def Ev.Le.refl(r:Ev):r.Le r:=⟨id,id,id,id,id,id,id,id,id,id⟩
def Ev.Le.trans{a b c:Ev}(x:a.Le b)(y:b.Le c):a.Le c:=⟨λh=>y.e (x.e h),λh=>y.es (x.es h),λh=>y.t (x.t h),λh=>y.s (x.s h),λh=>y.ss (x.ss h),λh=>y.asg (x.asg h),λh=>y.asgs (x.asgs h),λh=>y.call (x.call h),λh=>y.for_ (x.for_ h),λh=>y.comp (x.comp h)⟩
abbrev J7(f:Nat->Ev):Prop:= ∀n m,n<=m->(f n).Le (f m)
open Classical in
noncomputable def Bx{α:Type}(f:Nat->Option α):Option α:=if h:∃n a,f n=some a then f (choose h)else none
def eA{α:Type}{f:Nat->Option α}(hm:∀n m a,n<=m->f n=some a->f m=some a){a:α}:Bx f=some a ↔ ∃n,f n=some a:=by
 unfold Bx;constructor
 ·intro h
  split at h
  ·exact⟨_,h⟩
  ·cases h
 ·rintro ⟨n,h⟩;have hx:∃n a,f n=some a:=(uj n a h)
  erw [dif_pos hx]
  obtain⟨b,hb⟩:=Classical.choose_spec hx;have h1:=hm _ _ _ (iL n (Classical.choose hx)) h;have h2:=hm _ _ _ (lV n (Classical.choose hx)) hb;rw[h1]at h2
  erw [hb,h2];rfl
abbrev N3(f:Nat->Ev):Ev where
 e:=λd ls H c=>Bx λn=>(f n).e d ls H c
 es:=λd ls H c=>Bx λn=>(f n).es d ls H c
 t:=λd ls H c=>Bx λn=>(f n).t d ls H c
 s:=λd ls H c=>Bx λn=>(f n).s d ls H c
 ss:=λd ls H c=>Bx λn=>(f n).ss d ls H c
 asg:=λd ls H c v=>Bx λn=>(f n).asg d ls H c v
 asgs:=λd ls H c v=>Bx λn=>(f n).asgs d ls H c v
 call:=λd H g v=>Bx λn=>(f n).call d H g v
 for_:=λd ls H i t b=>Bx λn=>(f n).for_ d ls H i t b
 comp:=λd ls H i t c x k=>Bx λn=>(f n).comp d ls H i t c x k
structure Good{α:Type}(F:Ev->Option α):Prop where
 mono:∀r r',r.Le r'->∀a,F r=some a->F r'=some a
 cont:∀f,J7 f->∀a,F (N3 f)=some a->∃n,F (f n)=some a
def aZ{α:Type}(x:Option α):Good λzz=>x:=⟨λzz zy zx zw h=>h,λzz zy zx h=>⟨0,h⟩⟩
def bk{α:Type}{F:Ev->Option α}{G:α->Ev->Option β}(hF:Good F)(hG:∀a,Good (G a)):Good λr=>(F r).bind λa=>G a r:=by
 refine⟨λr r' l a h=>?_,λf hf a h=>?_⟩
 ·refine aM (cu.mp h) λx h1 h2=>?_;exact cu.mpr (bI x (hF.mono _ _ l _ h1) ((hG x).mono _ _ l _ h2))
 ·refine aM (cu.mp h) λx h1 h2=>?_;obtain⟨n,hn⟩:=hF.cont f hf _ h1;obtain⟨m,hm⟩:=(hG x).cont f hf _ h2;exact⟨max n m,cu.mpr (bI x (hF.mono _ _ (hf _ _ (iL n m)) _ hn) ((hG x).mono _ _ (hf _ _ (lV n m)) _ hm))⟩
def mh{α:Type}{F:Ev->Option α}{g:α->β}(hF:Good F):Good λr=>(F r).map g:=by
 refine⟨λr r' l a h=>?_,λf hf a h=>?_⟩
 ·refine aM (bL.mp h) λx h1 h2=>?_;exact bL.mpr (bI x (hF.mono _ _ l _ h1) h2)
 ·refine aM (bL.mp h) λx h1 h2=>?_;obtain⟨n,hn⟩:=hF.cont f hf _ h1;exact⟨n,bL.mpr (bI x hn h2)⟩
def fk{d ls H c}:Good λr=>r.e d ls H c:=⟨λzz zy l zx h=>l.e h,λf hf a h=>(eA λn m a l h=>(hf n m l).e h).mp h⟩
def nO{d ls H c}:Good λr=>r.es d ls H c:=⟨λzz zy l zx h=>l.es h,λf hf a h=>(eA λn m a l h=>(hf n m l).es h).mp h⟩
def j0{d ls H c}:Good λr=>r.t d ls H c:=⟨λzz zy l zx h=>l.t h,λf hf a h=>(eA λn m a l h=>(hf n m l).t h).mp h⟩
def Ag{d ls H c}:Good λr=>r.s d ls H c:=⟨λzz zy l zx h=>l.s h,λf hf a h=>(eA λn m a l h=>(hf n m l).s h).mp h⟩
def mH{d ls H c}:Good λr=>r.ss d ls H c:=⟨λzz zy l zx h=>l.ss h,λf hf a h=>(eA λn m a l h=>(hf n m l).ss h).mp h⟩
def yl{d ls H c v}:Good λr=>r.asg d ls H c v:=⟨λzz zy l zx h=>l.asg h,λf hf a h=>(eA λn m a l h=>(hf n m l).asg h).mp h⟩
def uV{d ls H c v}:Good λr=>r.asgs d ls H c v:=⟨λzz zy l zx h=>l.asgs h,λf hf a h=>(eA λn m a l h=>(hf n m l).asgs h).mp h⟩
def qQ{d H c v}:Good λr=>r.call d H c v:=⟨λzz zy l zx h=>l.call h,λf hf a h=>(eA λn m a l h=>(hf n m l).call h).mp h⟩
def tG{d ls H i t b}:Good λr=>r.for_ d ls H i t b:=⟨λzz zy l zx h=>l.for_ h,λf hf a h=>(eA λn m a l h=>(hf n m l).for_ h).mp h⟩
def qP{d ls H i t c x k}:Good λr=>r.comp d ls H i t c x k:=⟨λzz zy l zx h=>l.comp h,λf hf a h=>(eA λn m a l h=>(hf n m l).comp h).mp h⟩
def yk{d ls H}:∀{o:Option E},Good λr:Ev=>MV (r.e d ls H) H o
 | none=>aZ _
 | some x=>mh fk
def EZ{α:Type}{b:Bool}{F:Ev->Option α}(h:Good F):Good λr=>eV b (F r):=by
 cases b
 ·exact aZ _
 ·exact h
def LG{α:Type}{q:Bool}{G F:Ev->Option α}(h0:Good G)(h1:Good F):Good λr=>match q with | false=>G r | true=>F r:=by
 induction q using aG
 ·exact h0
 ·exact h1
set_option tactic.hygienic true in
theorem tE{P:Pg}{d ls H}(c:E):Good λr=>dP P r d ls H c:=by
 induction c using E.casesOn
 case meth a m as=>
  refine bk fk λp=>?_;obtain⟨x,H⟩:=p
  try dsimp only
  split
  ·exact bk nO λp=>qQ
  ·exact EZ (bk nO λp=>aZ _)
 case new c as=>
  refine bk nO λp=>bk (aZ _) λC=>bk qQ λp=>?_;exact aZ _
 case slice a l h=>exact bk fk λp=>bk yk λp=>bk yk λp=>aZ _
 case comp elt t src en c=>
  refine LG (q:=eW ls t) (aZ _) ?_;exact bk fk λp=>bk (aZ _) λp=>mh qP
 case chain a o b o' c=>
  refine bk fk λp=>bk fk λp=>bk (aZ _) λq=>?_
  induction q using aG
  ·exact aZ _
  ·exact bk fk λp=>aZ _
 case and a b=>
  refine bk fk λp=>bk (aZ _) λq=>?_
  induction q using aG
  ·exact aZ _
  ·exact fk
 case or a b=>
  refine bk fk λp=>bk (aZ _) λq=>?_
  induction q using aG
  ·exact fk
  ·exact aZ _
 case ife c a b=>
  refine bk j0 λp=>?_;obtain⟨q,H⟩:=p
  induction q using aG
  ·exact fk
  ·exact fk
 all_goals first
  | exact aZ _
  | exact bk fk λp=>aZ _
  | exact bk nO λp=>aZ _
  | exact bk fk λp=>bk fk λp=>aZ _
  | exact bk nO λp=>qQ
set_option tactic.hygienic true in
theorem tC{d ls H}(c:E):Good λr=>mM r d ls H c:=by
 induction c using E.casesOn
 case not a=>exact mh j0
 case and a b=>
  refine bk j0 λp=>?_;obtain⟨q,H⟩:=p
  induction q using aG
  ·exact aZ _
  ·exact j0
 case or a b=>
  refine bk j0 λp=>?_;obtain⟨q,H⟩:=p
  induction q using aG
  ·exact j0
  ·exact aZ _
 case ife c a b=>
  refine bk j0 λp=>?_;obtain⟨q,H⟩:=p
  induction q using aG
  ·exact j0
  ·exact j0
 all_goals exact bk fk λp=>aZ _
def rv{d ls H}(c:List E):Good λr=>oE r d ls H c:=by
 induction c using aw
 ·exact aZ _
 ·exact bk fk λp=>mh nO
def tF{P:Pg}{d ls H v}(c:T):Good λr=>sF P r d ls H c v:=by
 cases c with
 | v i=>exact aZ _
 | aT a f=>exact bk fk λp=>aZ _
 | idx a b=>exact bk fk λp=>bk fk λp=>aZ _
 | U ts=>cases v <;> first | exact uV | exact aZ _
def rz{d ls H}(c:List T)(v:List AV):Good λr=>oF r d ls H c v:=by
 induction c using aw <;> induction v using aw
 ·exact aZ _
 ·exact aZ _
 ·exact aZ _
 ·exact bk yl λp=>uV
set_option tactic.hygienic true in
theorem tD{d ls H}(c:S):Good λr=>pz r d ls H c:=by
 induction c using S.casesOn
 case aS t e=>exact bk fk λp=>mh yl
 case ite c a b=>
  refine bk j0 λp=>?_;obtain⟨q,H⟩:=p
  induction q using aG
  ·exact mH
  ·exact mH
 case «while» c b=>
  refine bk j0 λp=>?_;obtain⟨q,H⟩:=p
  induction q using aG
  ·exact aZ _
  ·refine bk mH λp=>?_;obtain⟨f,ls,H⟩:=p
   induction f using Fl.casesOn
   ·exact Ag
   ·exact Ag
   ·exact aZ _
 case «for» t e b=>
  refine bk fk λp=>?_;rcases p with⟨x,H⟩
  try dsimp only
  split
  ·exact tG
  ·exact aZ _
 case try_ b=>exact mH
 all_goals first
  | exact aZ _
  | exact mh fk
def ru{d ls H}(c:List S):Good λr=>oD r d ls H c:=by
 induction c using aw
 ·exact aZ _
 ·refine bk Ag λp=>?_;obtain⟨f,ls,H⟩:=p
  induction f using Fl.casesOn
  ·exact mH
  ·exact aZ _
  ·exact aZ _
def om{P:Pg}{d H f v}:Good λr=>iE P r d H f v:=by
 unfold iE
 split
 ·try dsimp only
  split
  ·refine bk mH λp=>aZ _
  ·exact aZ _
 ·exact aZ _
def pU{d ls H i t b}:Good λr=>mB r d ls H i t b:=by
 refine bk (aZ _) λo=>?_
 cases o using bf with
 | none=>exact aZ _
 | some p=>
  refine bk (aZ _) λl=>bk mH λp=>?_;obtain⟨f,ls,H⟩:=p
  induction f using Fl.casesOn
  ·exact tG
  ·exact tG
  ·exact aZ _
def oi{d ls H i t c x k}:Good λr=>kJ r d ls H i t c x k:=by
 refine bk (aZ _) λo=>?_
 cases o using bf with
 | none=>exact aZ _
 | some p=>
  refine bk (aZ _) λl=>bk ?_ λp=>?_
  ·induction c using bf
   ·exact aZ _
   ·exact j0
  ·obtain⟨q,H⟩:=p
   induction q using aG
   ·exact qP
   ·exact bk fk λp=>bk (aZ _) λp=>qP
def B8{P:Pg}{r r':Ev}(h:r.Le r'):(Ev.step P r).Le (Ev.step P r'):=
 ⟨λg=>(tE _).mono _ _ h _ g,λg=>(rv _).mono _ _ h _ g,λg=>(tC _).mono _ _ h _ g,λg=>(tD _).mono _ _ h _ g,λg=>(ru _).mono _ _ h _ g,λg=>(tF _).mono _ _ h _ g,λg=>(rz _ _).mono _ _ h _ g,λg=>om.mono _ _ h _ g,λg=>pU.mono _ _ h _ g,λg=>oi.mono _ _ h _ g⟩
def iF{α:Type}{a:α}{p:Prop}(h:(none:Option α)=some a):p:=by cases h
def Me(r:Ev):Ev.bot.Le r:=⟨fun{zz zy zx zw zv} h=>iF h,fun{zz zy zx zw zv} h=>iF h,fun{zz zy zx zw zv} h=>iF h,fun{zz zy zx zw zv} h=>iF h,fun{zz zy zx zw zv} h=>iF h,fun{zz zy zx zw zv zu} h=>iF h,fun{zz zy zx zw zv zu} h=>iF h,fun{zz zy zx zw zv} h=>iF h,fun{zz zy zx zw zv zu zt} h=>iF h,fun{zz zy zx zw zv zu zt zs zr} h=>iF h⟩
def BF(P:Pg):∀n,(ev P n).Le (ev P (n+1))
 | 0=>Me _
 | n+1=>B8 (BF P n)
def dK(P:Pg):J7 (ev P):=λn m h=>by
 induction h with
 | refl=>exact .refl _
 | step zz ih=>exact ih.trans (BF P _)
abbrev R0:Ev:=N3 (ev P)
def oo{α:Type}{F:Ev->Option α}{f:Nat->Option α}(hF:Good F)(h0:f 0=none)(h1:∀n,f (n+1)=F (ev P n))(hm:∀n m a,n<=m->f n=some a->f m=some a):Bx f=F R0:=by
 cases e:F R0 with
 | some a=>
  obtain⟨n,hn⟩:=hF.cont _ (dK P) _ e;exact(eA hm).mpr ⟨n+1,(h1 n).trans hn⟩
 | none=>
  cases e2:Bx f with
  | none=>rfl
  | some a=>
   obtain⟨n,hn⟩:=(eA hm).mp e2;cases n with
   | zero=>rw[h0]at hn;cases hn
   | succ n=>
    rw[h1]at hn;have le:(ev P n).Le R0:=⟨λh=>(eA λn m a l h=>(dK P n m l).e h).mpr ⟨n,h⟩,λh=>(eA λn m a l h=>(dK P n m l).es h).mpr ⟨n,h⟩,λh=>(eA λn m a l h=>(dK P n m l).t h).mpr ⟨n,h⟩,λh=>(eA λn m a l h=>(dK P n m l).s h).mpr ⟨n,h⟩,λh=>(eA λn m a l h=>(dK P n m l).ss h).mpr ⟨n,h⟩,λh=>(eA λn m a l h=>(dK P n m l).asg h).mpr ⟨n,h⟩,λh=>(eA λn m a l h=>(dK P n m l).asgs h).mpr ⟨n,h⟩,λh=>(eA λn m a l h=>(dK P n m l).call h).mpr ⟨n,h⟩,λh=>(eA λn m a l h=>(dK P n m l).for_ h).mpr ⟨n,h⟩,λh=>(eA λn m a l h=>(dK P n m l).comp h).mpr ⟨n,h⟩⟩;have:=hF.mono _ _ le _ hn;rw[e]at this;cases this
def RY{d ls H c}:R0.e d ls H c=dP P R0 d ls H c:=oo (tE c) rfl (λzz=>rfl) λn m a l h=>(dK P n m l).e h
def PJ{d ls H c}:R0.es d ls H c=oE R0 d ls H c:=oo (rv c) rfl (λzz=>rfl) λn m a l h=>(dK P n m l).es h
def RW{d ls H c}:R0.t d ls H c=mM R0 d ls H c:=oo (tC c) rfl (λzz=>rfl) λn m a l h=>(dK P n m l).t h
def RX{d ls H c}:R0.s d ls H c=pz R0 d ls H c:=oo (tD c) rfl (λzz=>rfl) λn m a l h=>(dK P n m l).s h
def PI{d ls H c}:R0.ss d ls H c=oD R0 d ls H c:=oo (ru c) rfl (λzz=>rfl) λn m a l h=>(dK P n m l).ss h
def MS{d ls H c v}:R0.asg d ls H c v=sF P R0 d ls H c v:=oo (tF c) rfl (λzz=>rfl) λn m a l h=>(dK P n m l).asg h
def Jc{d ls H c v}:R0.asgs d ls H c v=oF R0 d ls H c v:=oo (rz c v) rfl (λzz=>rfl) λn m a l h=>(dK P n m l).asgs h
def Jb{d H f v}:R0.call d H f v=iE P R0 d H f v:=oo om rfl (λzz=>rfl) λn m a l h=>(dK P n m l).call h
def MR{d ls H i t b}:R0.for_ d ls H i t b=mB R0 d ls H i t b:=oo pU rfl (λzz=>rfl) λn m a l h=>(dK P n m l).for_ h
def Ja{d ls H i t c x k}:R0.comp d ls H i t c x k=kJ R0 d ls H i t c x k:=oo oi rfl (λzz=>rfl) λn m a l h=>(dK P n m l).comp h
def I9{d H f v a}(h:R0.call d H f v=some a):∃n,(ev P n).call d H f v=some a:=(eA λn m a l h=>(dK P n m l).call h).mp h
@[irreducible] noncomputable def R:Ev:=R0
def t5:R=R0:=by delta R;rfl
def o9{d ls H c}:R.e d ls H c=dP P R d ls H c:=by erw [t5];exact RY
def MO{d ls H c}:R.es d ls H c=oE R d ls H c:=by erw [t5];exact PJ
def MM{d ls H c}:R.t d ls H c=mM R d ls H c:=by erw [t5];exact RW
def Da{d ls H c}:R.s d ls H c=pz R d ls H c:=by erw [t5];exact RX
def Gd{d ls H c}:R.ss d ls H c=oD R d ls H c:=by erw [t5];exact PI
def yS{d ls H c v}:R.asg d ls H c v=sF P R d ls H c v:=by erw [t5];exact MS
def AI{d ls H c v}:R.asgs d ls H c v=oF R d ls H c v:=by erw [t5];exact Jc
def MP{d H f v}:R.call d H f v=iE P R d H f v:=by erw [t5];exact Jb
def BZ{d ls H i t b}:R.for_ d ls H i t b=mB R d ls H i t b:=by erw [t5];exact MR
def t6{d ls H i t c x k}:R.comp d ls H i t c x k=kJ R d ls H i t c x k:=by erw [t5];exact Ja
def MN{d H f v a}(h:R.call d H f v=some a):∃n,(ev P n).call d H f v=some a:=by rw[t5]at h;exact I9 h
noncomputable abbrev aQ(d:Nat)(H:Hp)(f:Nat)(vs:List AV)(r:AV×Hp):Prop:=R.call d H f vs=some r
noncomputable abbrev Re(d:Nat)(ls:Ls)(H:Hp)(a:E)(r:AV×Hp):Prop:=R.e d ls H a=some r
noncomputable abbrev vn(d:Nat)(ls:Ls)(H:Hp)(a:List E)(r:List AV×Hp):Prop:=R.es d ls H a=some r
noncomputable abbrev Rt(d:Nat)(ls:Ls)(H:Hp)(a:E)(r:Bool×Hp):Prop:=R.t d ls H a=some r
noncomputable abbrev Rs(d:Nat)(ls:Ls)(H:Hp)(a:S)(r:Fl×Ls×Hp):Prop:=R.s d ls H a=some r
noncomputable abbrev gI(d:Nat)(ls:Ls)(H:Hp)(a:List S)(r:Fl×Ls×Hp):Prop:=R.ss d ls H a=some r
noncomputable abbrev wJ(d:Nat)(ls:Ls)(H:Hp)(t:T)(v:AV)(r:Ls×Hp):Prop:=R.asg d ls H t v=some r
noncomputable abbrev vo(d:Nat)(ls:Ls)(H:Hp)(t:List T)(v:List AV)(r:Ls×Hp):Prop:=R.asgs d ls H t v=some r
noncomputable abbrev lO(d:Nat)(ls:Ls)(H:Hp)(i:It)(t:PT)(b:List S)(r:Fl×Ls×Hp):Prop:=R.for_ d ls H i t b=some r
noncomputable abbrev lP(d:Nat)(ls:Ls)(H:Hp)(i:It)(t:PT)(c:Option E)(a:E)(k:Nat)(r:Hp):Prop:=R.comp d ls H i t c a k=some r
noncomputable abbrev Hk(H:Hp)(k:Nat)(c:Cell):Prop:=H[k]? =some c
end
section
mutual
variable{vs args:List AV}{r:AV×Hp}{k f i m:Nat}{it it':It}{t pt:PT}{fs:List (Nat×AV)}{q:Bool}{s:List Nat}{α β:Type}
variable{d:Nat}{ls ls' bB:Ls}{H au aP dM H':Hp}{a b c:E}{x y z v:AV}
def bo{x:Option α}{f:α->Option β}{a:α}{r:Option β}(h:x=some a)(k:f a=r):x.bind f=r:=by erw [h];exact k
def mo{x:Option α}{f:α->β}{a:α}(h:x=some a):x.map f=some (f a):=by erw [h];rfl
def aA:Re d ls H (.lit v) (v,H):=o9
def ah(h:ls[i]? =some (some v)):Re d ls H (.v i) (v,H):=o9.trans (by show(match ls[i]? with | some (some v)=>some (v,H) | _=>none)=_;erw [h];rfl)
def bT{o:O2}(ha:Re d ls H a (x,au))(hb:Re d ls au b (y,aP))(h:nY o x y aP=some r):Re d ls H (.o o a b) r:=o9.trans (bo ha (bo hb h))
def p6{i:Int}(ha:Re d ls H a (.int i,au)):Re d ls H (.neg a) (.int (-i),au):=o9.trans (bo ha rfl)
def dy{o:CO}(ha:Re d ls H a (x,au))(hb:Re d ls au b (y,aP))(h:iI aP o x y=some q):Re d ls H (.j o a b) (.bool q,aP):=o9.trans (bo ha (bo hb (mo h)))
def BH(ha:Re d ls H a (.bool true,au))(hb:Re d ls au b r):Re d ls H (.and a b) r:=o9.trans (bo ha (bo (a:=true) rfl hb))
def LZ(ha:Re d ls H a (.bool true,au)):Re d ls H (.or a b) (.bool true,au):=o9.trans (bo ha (bo (a:=true) rfl rfl))
def An(ha:Re d ls H a (.bool false,au))(hb:Re d ls au b r):Re d ls H (.or a b) r:=o9.trans (bo ha (bo (a:=false) rfl hb))
def eX(ha:Rt d ls H c (true,au))(hb:Re d ls au a r):Re d ls H (.ife c a b) r:=o9.trans (bo ha hb)
def fz(ha:Rt d ls H c (false,au))(hb:Re d ls au b r):Re d ls H (.ife c a b) r:=o9.trans (bo ha hb)
def IR{c:Nat}(hk:Hk H k (.n c fs))(hf:wU P c f=true)(hg:jz f fs=some v):vh P H (.ref k) f=some v:=bo hk (by show eV (wU P c f) (jz f fs)=_;erw [hf];exact hg)
def de{c:Nat}(ha:Re d ls H a (.ref k,au))(hk:Hk au k (.n c fs))(hf:wU P c f=true)(hg:jz f fs=some v):Re d ls H (.aT a f) (v,au):=o9.trans (bo ha (mo (IR hk hf hg)))
def dD(ha:Re d ls H a (x,au))(hb:Re d ls au b (y,aP))(h:rN aP x y=some v):Re d ls H (.idx a b) (v,aP):=o9.trans (bo ha (bo hb (mo h)))
def k6(ha:Re d ls H a (x,au))(hb:Re d ls au b (y,aP))(h:iw x none (some y) aP=some r):Re d ls H (.slice a none (some b)) r:=o9.trans (bo ha (bo rfl (bo (mo hb) h)))
def oU(ha:Re d ls H a (x,au))(hb:Re d ls au b (y,aP))(h:iw x (some y) none aP=some r):Re d ls H (.slice a (some b) none) r:=o9.trans (bo ha (bo (mo hb) (bo rfl h)))
def jC(ha:Re d ls H a (x,au))(hb:Re d ls au b (y,aP))(hc:Re d ls aP c (z,dM))(h:iw x (some y) (some z) dM=some r):Re d ls H (.slice a (some b) (some c)) r:=o9.trans (bo ha (bo (mo hb) (bo (mo hc) h)))
def bj{as:List E}(hs:vn d ls H as (vs,au))(h:aQ d au f vs r):Re d ls H (.call f as) r:=o9.trans (bo hs h)
def gH{as:List E}{C:Cls}(hs:vn d ls H as (vs,au))(hC:P.clss[i]? =some C)(h:aQ d (au++ [.n i []]) C.init (.ref au.length::vs) (.none,aP)):Re d ls H (.new i as) (.ref au.length,aP):=o9.trans (bo hs (bo hC (bo h rfl)))
def eI{f:BI}{as:List E}(hs:vn d ls H as (vs,au))(h:BS f vs au=some r):Re d ls H (.bi f as) r:=o9.trans (bo hs h)
def iZ{k:IK}(ha:Re d ls H a (x,au))(h:kx P au k x=some q):Re d ls H (.h a k) (.bool q,au):=o9.trans (bo ha (mo h))
def Hx{c:Nat}{C:Cls}(hk:Hk H k (.n c fs))(hg:jz m fs=none)(hC:P.clss[c]? =some C)(hm:C.meths.lookup m=some f):kS P H (.ref k) m=some f:=bo hk (by show(match jz m fs with | none=>(P.clss[c]?).bind λC=>C.meths.lookup m | some zz=>none)=_;erw [hg];exact bo hC hm)
def gD{c:Nat}{as:List E}{C:Cls}(ha:Re d ls H a (.ref k,au))(hk:Hk au k (.n c fs))(hg:jz m fs=none)(hC:P.clss[c]? =some C)(hm:C.meths.lookup m=some f)(hs:vn d ls au as (vs,aP))(h:aQ d aP f (.ref k::vs) r):Re d ls H (.meth a m as) r:=
 o9.trans (bo ha (by try dsimp only;erw [Hx hk hg hC hm];exact bo hs h))
def r5{as:List E}(ha:Re d ls H a (x,au))(hn:kS P au x m=none)(hp:km au x m=true)(hs:vn d ls au as (vs,aP))(h:kR x m vs aP=some r):Re d ls H (.meth a m as) r:=
 o9.trans (bo ha (by try dsimp only;erw [hn,hp];exact bo hs h))
def fK{as:List E}(hs:vn d ls H as (vs,au))(hr:cG vs.length=true):Re d ls H (.list as) (.ref au.length,au++ [.list vs]):=o9.trans (bo hs (by show eV (cG vs.length) _=_;erw [hr];rfl))
def gR{as:List E}(hs:vn d ls H as (vs,au))(hr:cG vs.length=true):Re d ls H (.U as) (.U vs,au):=o9.trans (bo hs (by show eV (cG vs.length) _=_;erw [hr];rfl))
def Iv:Re d ls H .dict0 (.ref H.length,H++ [.dict []]):=o9
def CW(ha:Re d ls H a (.str s,au))(hb:Re d ls au b (.ref k,aP))(hk:aF aP k=some vs)(h:j6 s vs.reverse=some v):Re d ls H (.joinrev a b) (v,aP):=o9.trans (bo ha (bo hb (show((aF aP k).bind λvs=>(j6 s vs.reverse).map (·,aP))=_ from bo hk (mo h))))
def O0{p z1 z2:List Nat}{y1 y2:Nat}(ha:Re d ls H a (x,au))(h:Fi p x y1 z1 y2 z2=some v):Re d ls H (.esc p a y1 z1 y2 z2) (v,au):=o9.trans (bo ha (mo h))
def L4{t:List (Int×List Nat)}{i:Int}(ha:Re d ls H a (.int i,au))(hb:Re d ls au b (.str s,aP)):Re d ls H (.dget t a b) (.str ((t.lookup i).getD s),aP):=o9.trans (bo ha (bo hb rfl))
def k7{cnd:Option E}(hf:eW ls pt=true)(ha:Re d ls H a (x,au))(hi:gC au x=some it)(h:lP d ls (au++ [.list []]) it pt cnd b au.length aP):Re d ls H (.comp b pt a false cnd) (.ref au.length,aP):=o9.trans (by show(match eW ls pt with | false=>none | true=>_)=_;erw [hf];exact bo ha (bo hi (mo h)))
def Iy{cnd:Option E}(hf:eW ls pt=true)(ha:Re d ls H a (.str s,au))(h:lP d ls (au++ [.list []]) (.enum 0 s) pt cnd b au.length aP):Re d ls H (.comp b pt a true cnd) (.ref au.length,aP):=o9.trans (by show(match eW ls pt with | false=>none | true=>_)=_;erw [hf];exact bo ha (bo rfl (mo h)))
def aq:vn d ls H [] ([],H):=MO
def ak{as:List E}(ha:Re d ls H a (x,au))(hs:vn d ls au as (vs,aP)):vn d ls H (a::as) (x::vs,aP):=MO.trans (bo ha (mo hs))
def uA(h:Rt d ls H a (q,au)):Rt d ls H (.not a) (!q,au):=MM.trans (mo h)
def pk(h:Rt d ls H a (false,au)):Rt d ls H (.and a b) (false,au):=MM.trans (bo h rfl)
def mz{r:Bool×Hp}(h:Rt d ls H a (true,au))(h':Rt d ls au b r):Rt d ls H (.and a b) r:=MM.trans (bo h h')
def zc(h:Rt d ls H a (true,au)):Rt d ls H (.or a b) (true,au):=MM.trans (bo h rfl)
def iP{r:Bool×Hp}(h:Rt d ls H a (false,au))(h':Rt d ls au b r):Rt d ls H (.or a b) r:=MM.trans (bo h h')
def gF(hc:mf c=false)(h:Re d ls H c (.bool q,au)):Rt d ls H c (q,au):=MM.trans (by
 have:mM R d ls H c=(R.e d ls H c).bind fun(x,H)=>(gX x).map λb=>(b,H):=by induction c using E.casesOn <;> first | rfl | exact nomatch hc
 erw [this];exact bo h rfl)
def bb:gI d ls H [] (.next,ls,H):=Gd
def aC{s:S}{ss:List S}{r:Fl×Ls×Hp}(h:Rs d ls H s (.next,bB,au))(h':gI d bB au ss r):gI d ls H (s::ss) r:=Gd.trans (bo h h')
def eQ{s:S}{ss:List S}(h:Rs d ls H s (.ret v,bB,au)):gI d ls H (s::ss) (.ret v,bB,au):=Gd.trans (bo h rfl)
def pA{s:S}{ss:List S}(h:Rs d ls H s (.cont,bB,au)):gI d ls H (s::ss) (.cont,bB,au):=Gd.trans (bo h rfl)
def sP(h:Re d ls H a (v,au)):Rs d ls H (.expr a) (.next,ls,au):=Da.trans (mo h)
def kL(h:Re d ls H a (v,au)):Rs d ls H (.ret a) (.ret v,ls,au):=Da.trans (mo h)
def KI:Rs d ls H .retn (.ret .none,ls,H):=Da
def iU{t:T}(h:Re d ls H a (v,au))(h':wJ d ls au t v (bB,aP)):Rs d ls H (.aS t a) (.next,bB,aP):=Da.trans (bo h (mo h'))
def ff{p q:List S}{r:Fl×Ls×Hp}(h:Rt d ls H c (true,au))(h':gI d ls au p r):Rs d ls H (.ite c p q) r:=Da.trans (bo h h')
def cV{p q:List S}{r:Fl×Ls×Hp}(h:Rt d ls H c (false,au))(h':gI d ls au q r):Rs d ls H (.ite c p q) r:=Da.trans (bo h h')
def eS{p:List S}(h:Rt d ls H c (false,au)):Rs d ls H (.while c p) (.next,ls,au):=Da.trans (bo h rfl)
def eR{p:List S}{r:Fl×Ls×Hp}(h:Rt d ls H c (true,au))(h':gI d ls au p (.next,bB,aP))(k:Rs d bB aP (.while c p) r):Rs d ls H (.while c p) r:=Da.trans (bo h (bo h' k))
def uF{p:List S}{r:Fl×Ls×Hp}(h:Rt d ls H c (true,au))(h':gI d ls au p (.cont,bB,aP))(k:Rs d bB aP (.while c p) r):Rs d ls H (.while c p) r:=Da.trans (bo h (bo h' k))
def l9{p:List S}(h:Rt d ls H c (true,au))(h':gI d ls au p (.ret v,bB,aP)):Rs d ls H (.while c p) (.ret v,bB,aP):=Da.trans (bo h (bo h' rfl))
def mN{p:List S}{r:Fl×Ls×Hp}(h:Re d ls H a (x,au))(hi:gC au x=some it)(k:lO d ls au it t p r):Rs d ls H (.for t a p) r:=Da.trans (bo h (by try dsimp only;erw [hi];exact k))
def A9:Rs d ls H .cont (.cont,ls,H):=Da
def eu(h:cg i ls.length=true):wJ d ls H (.v i) v (ls.set i (some v),H):=yS.trans (by show(jh ls i v).map _=_;unfold jh;erw [h];rfl)
def zB{c:Nat}(hk:Hk H k (.n c fs))(hf:wU P c f=true)(hl:cg fs.length 20=true):l6 P H (.ref k) f v=some (H.set k (.n c (oI f v fs))):=bo hk (by show eV (wU P c f && cg fs.length 20) _=_;erw [hf,hl];rfl)
def jG{c:Nat}(ha:Re d ls H a (.ref k,au))(hk:Hk au k (.n c fs))(hf:wU P c f=true)(hl:cg fs.length 20=true):wJ d ls H (.aT a f) v (ls,au.set k (.n c (oI f v fs))):=yS.trans (bo ha (mo (zB hk hf hl)))
def FY(ha:Re d ls H a (x,au))(hb:Re d ls au b (y,aP))(h:mY aP x y v=some dM):wJ d ls H (.idx a b) v (ls,dM):=yS.trans (bo ha (bo hb (mo h)))
def mr{ts:List T}{r:Ls×Hp}(h:vo d ls H ts vs r):wJ d ls H (.U ts) (.U vs) r:=yS.trans h
def jF:vo d ls H [] [] (ls,H):=AI
def dj{t:T}{ts:List T}{r:Ls×Hp}(h:wJ d ls H t v (bB,au))(h':vo d bB au ts vs r):vo d ls H (t::ts) (v::vs) r:=AI.trans (bo h h')
def Az{F:Fn}(hF:P.fns[f]? =some F)(hv:args++F.dfl.drop (F.dfl.length-(F.np-args.length))=vs)(hl:(vs.length==F.np)=true):R.call (d+1) H f args=(R.ss d (vs.map some++cD (F.nl-F.np) none) H F.body).bind fun(fl,zz,H)=>match fl with
 | .ret v=>some (v,H)
 | .next=>some (.none,H)
 | .cont=>none:=MP.trans (by
 subst hv;unfold iE
 erw [hF]
 try dsimp only
 erw [hl]
 try rfl)
def bz{F:Fn}(hF:P.fns[f]? =some F)(hv:args++F.dfl.drop (F.dfl.length-(F.np-args.length))=vs)(hl:(vs.length==F.np)=true)(h:gI d (vs.map some++cD (F.nl-F.np) none) H F.body (.ret v,ls',H')):aQ (d+1) H f args (v,H'):=(Az hF hv hl).trans (bo h rfl)
def fB{F:Fn}(hF:P.fns[f]? =some F)(hv:args++F.dfl.drop (F.dfl.length-(F.np-args.length))=vs)(hl:(vs.length==F.np)=true)(h:gI d (vs.map some++cD (F.nl-F.np) none) H F.body (.next,ls',H')):aQ (d+1) H f args (.none,H'):=(Az hF hv hl).trans (bo h rfl)
def iH{p:List S}(h:it.next H=some none):lO d ls H it t p (.next,ls,H):=BZ.trans (bo h rfl)
def fq{p:List S}{r:Fl×Ls×Hp}(h:it.next H=some (some (v,it')))(hb:jd H ls t v=some bB)(h':gI d bB H p (.next,ls',au))(k:lO d ls' au it' t p r):lO d ls H it t p r:=BZ.trans (bo h (bo hb (bo h' k)))
def BA{p:List S}(h:it.next H=some (some (v,it')))(hb:jd H ls t v=some bB)(h':gI d bB H p (.ret x,ls',au)):lO d ls H it t p (.ret x,ls',au):=BZ.trans (bo h (bo hb (bo h' rfl)))
def gq{cnd:Option E}(h:it.next H=some none):lP d ls H it t cnd a k H:=t6.trans (bo h rfl)
def AE(hk:Hk H k (.list vs))(hr:cG vs.length=true):kR (.ref k) 0 [x] H=some (.none,H.set k (.list (vs++ [x]))):=bo hk (by show eV (cG vs.length) (some (AV.none,H.set k (.list (vs++ [x]))))=_;erw [hr];rfl)
def i4{r:Option Hp}(h:it.next H=some (some (v,it')))(hb:jd H ls t v=some bB)(h':Re d bB H a (x,au))(hk:Hk au k (.list vs))(hr:cG vs.length=true)(h2:R.comp d bB (au.set k (.list (vs++ [x]))) it' t none a k=r):R.comp d ls H it t none a k=r:=t6.trans (bo h (bo hb (bo rfl (bo h' (bo (AE hk hr) h2)))))
def Au{r:Option Hp}(h:it.next H=some (some (v,it')))(hb:jd H ls t v=some bB)(hc:Rt d bB H c (true,au))(h':Re d bB au a (x,aP))(hk:Hk aP k (.list vs))(hr:cG vs.length=true)(h2:R.comp d bB (aP.set k (.list (vs++ [x]))) it' t (some c) a k=r):R.comp d ls H it t (some c) a k=r:=t6.trans (bo h (bo hb (bo hc (bo h' (bo (AE hk hr) h2)))))
def u4{r:Option Hp}(h:it.next H=some (some (v,it')))(hb:jd H ls t v=some bB)(hc:Rt d bB H c (false,au))(h2:R.comp d bB au it' t (some c) a k=r):R.comp d ls H it t (some c) a k=r:=t6.trans (bo h (bo hb (bo hc h2)))
end
end
section
mutual
variable{i f:Nat}{vs:List AV}{k:Bool}{fs:List (Nat×AV)}
variable{d:Nat}{ls ls' bB:Ls}{H au aP dM H':Hp}{a b c:E}{x y z v w:AV}{ss p q:List S}{r:Fl×Ls×Hp}
def cL(h:Re d ls H a (v,au))(hi:cg i ls.length=true)(k:gI d (ls.set i (some v)) au ss r):gI d ls H (.aS (.v i) a::ss) r:=aC (iU h (eu hi)) k
def lR{t:T}(h:Re d ls H a (v,au))(h':wJ d ls au t v (bB,aP))(k:gI d bB aP ss r):gI d ls H (.aS t a::ss) r:=aC (iU h h') k
def ij(h:Rt d ls H c (false,au))(k:gI d ls au ss r):gI d ls H (.ite c p []::ss) r:=aC (cV h bb) k
def ux(h:Re d ls H a (v,au))(k:gI d ls au ss r):gI d ls H (.expr a::ss) r:=aC (sP h) k
def fx(h:Re d ls H a (v,au)):gI d ls H (.ret a::ss) (.ret v,ls,au):=eQ (kL h)
def mw(h:Rt d ls H c (true,au))(h':gI d ls au p (.ret v,bB,aP)):gI d ls H (.ite c p q::ss) (.ret v,bB,aP):=eQ (ff h h')
def R4(h:Rt d ls H c (false,au))(h':gI d ls au q (.ret v,bB,aP)):gI d ls H (.ite c p q::ss) (.ret v,bB,aP):=eQ (cV h h')
def gO{o:CO}(ha:Re d ls H a (x,au))(hb:Re d ls au b (y,aP))(h:iI aP o x y=some k):Rt d ls H (.j o a b) (k,aP):=gF rfl (dy ha hb h)
def cT{o:CO}(h0:ls[i]? =some (some x))(h:iI H o x y=some k):Rt d ls H (.j o (.v i) (.lit y)) (k,H):=gF rfl (dy (ah h0) aA h)
def mx{as:List E}(hs:vn d ls H as (vs,au))(h:aQ d au f vs (.bool k,aP)):Rt d ls H (.call f as) (k,aP):=gF rfl (bj hs h)
def cC{k c:Nat}(h0:ls[i]? =some (some (.ref k)))(hk:Hk H k (.n c fs))(hf:wU P c f=true)(hg:jz f fs=some v):Re d ls H (.aT (.v i) f) (v,H):=de (ah h0) hk hf hg
def i5{m k c:Nat}{as:List E}{o:AV×Hp}{C:Cls}(h0:ls[i]? =some (some (.ref k)))(hk:Hk H k (.n c fs))(hg:jz m fs=none)(hC:P.clss[c]? =some C)(hm:C.meths.lookup m=some f)(hs:vn d ls H as (vs,aP))(h:aQ d aP f (.ref k::vs) o):Re d ls H (.meth (.v i) m as) o:=gD (ah h0) hk hg hC hm hs h
def bW{as:List E}(h0:ls[i]? =some (some x))(hs:vn d ls H as (vs,aP)):vn d ls H (.v i::as) (x::vs,aP):=ak (ah h0) hs
def gS{as:List E}(hs:vn d ls H as (vs,aP)):vn d ls H (.lit x::as) (x::vs,aP):=ak aA hs
end
end
end Mine.Internal
end
section
open PySem
namespace Mine.Internal
mutual
variable{c':Cell}{au:Hp}{ok':Nat->Prop}{j l:Nat}{u s':List Nat}{α:Type}
def lF{H:Hp}{c:Cell}:(H++ [c]).set H.length c'=H++ [c']:=by simp
def aV{H:Hp}{c:Cell}:Hk (H++ [c]) (H.length) c:=by show(_:Option Cell)=_;simp
def bD{H:Hp}{c:Cell}{k:Nat}(h:Hk H k c):Hk (H++ [c']) k c:=by
 show(_:Option Cell)=_;erw [dm (aU.mp h).1];exact h
def dT{p:Prop} [Decidable p](h:p):some (decide p)=some true:=congrArg some (decide_eq_true h)
def dF{p:Prop} [Decidable p](h:¬ p):some (decide p)=some false:=congrArg some (decide_eq_false h)
def nT{p:Prop} [Decidable p](h:¬ p):(some (decide p)).map (!·)=some true:=by erw [decide_eq_false h];rfl
def nF{p:Prop} [Decidable p](h:p):(some (decide p)).map (!·)=some false:=by erw [decide_eq_true h];rfl
def dU{d:Nat}{ls:Ls}{H:Hp}{a:E}{v:AV}{c f:Nat}{fs:List (Nat×AV)}(h0:ls[0]? =some (some (.ref H.length)))(h:Re d ls (H++ [.n c fs]) a (v,H++ [.n c fs]))(hf:wU P c f=true)(hl:cg fs.length 20=true):
  Rs d ls (H++ [.n c fs]) (.aS (.aT (.v 0) f) a) (.next,ls,H++ [.n c (oI f v fs)]):=lF (H:=H) (c:= .n c fs) (c':= .n c (oI f v fs)) ▸iU h (jG (ah h0) aV hf hl)
end
section
mutual
variable{k:Nat}{m e:Int}
variable{d:Nat}{ls:Ls}{H au:Hp}
def Ut{i:Int}:aQ (d+1) H 30 [.int i] (.int (yL (decide (0<i))-yL (decide (i<0))),H):=bz (F:=SR) rfl rfl rfl (fx (bT (dy (ah rfl) aA rfl) (dy (ah rfl) aA rfl) rfl))
def Rz(hk:Hk H k (.n 16 [(30, .int m),(31, .int e)])):aQ (d+2) H 39 [.ref k] (.int (yL (decide (0<m))-yL (decide (m<0))),H):=bz (F:=SQ) rfl rfl rfl (fx (bj (ak (cC rfl hk rfl rfl) aq) Ut))
def Tn{a b:AV}:aQ (d+1) (H++ [.n 16 []]) 27 [.ref H.length,a,b] (.none,H++ [.n 16 [(30,a),(31,b)]]):=fB (F:=SU) rfl rfl rfl (aC (dU rfl (ah rfl) rfl rfl) (aC (dU rfl (ah rfl) rfl rfl) bb))
def Us(hk:Hk H k (.n 16 [(30, .int m),(31, .int e)])):aQ (d+2) H 40 [.ref k] (.ref H.length,H++ [.n 16 [(30, .int (m.natAbs:Int)),(31, .int e)]]):=bz (F:=SP) rfl rfl rfl (fx (gH (ak (eI (ak (cC rfl hk rfl rfl) aq) rfl) (ak (cC rfl hk rfl rfl) aq)) rfl Tn))
end
end
mutual
set_option genInjectivity true in
inductive D where
 | bool (b:Bool)
 | int (i:Int)
 | empty
 | ratio (p q:Int)
 | real (m e:Int)
 | sym (s:List Nat)
 | char (c:Nat)
 | text (cs:List Nat)
 | vec (a b:D)
 | pair (a b:D)
abbrev D.ctorIdx(x:D):Nat:=D.casesOn x (λzz=>0) (λzz=>1) 2 (λzz zy=>3) (λzz zy=>4) (λzz=>5) (λzz=>6) (λzz=>7) (λzz zy=>8) (λzz zy=>9)
abbrev gJ(ok:Nat->Prop)(H:Hp)(v:AV):D->Prop
 | .bool b=>v= .bool b
 | .int i=>v= .int i
 | .empty=>v= .obj 0
 | .ratio p q=> ∃k,v= .ref k/\ok k/\Hk H k (.n 17 [(32, .int p),(33, .int q)])
 | .real m e=> ∃k,v= .ref k/\ok k/\Hk H k (.n 16 [(30, .int m),(31, .int e)])
 | .sym s=> ∃k n,v= .ref k/\ok k/\Hk H k (.n 1 [(12, .int n),(13, .str s)])
 | .char c=> ∃k,v= .ref k/\ok k/\Hk H k (.n 4 [(18, .int c)])
 | .text cs=> ∃k l,v= .ref k/\ok k/\Hk H k (.n 5 [(19, .ref l)])/\ok l/\Hk H l (.list (cs.map λc:Nat=> .int c))
 | .vec a b=> ∃k l x y,v= .ref k/\ok k/\Hk H k (.n 6 [(20, .ref l)])/\ok l/\Hk H l (.list [x,y])/\gJ ok H x a/\gJ ok H y b
 | .pair a b=> ∃k x y,v= .ref k/\ok k/\Hk H k (.n 3 [(16,x),(17,y)])/\gJ ok H x a/\gJ ok H y b
structure Keep(ok:Nat->Prop)(H H':Hp):Prop where
 len:H.length<=H'.length
 at_:∀k c,ok k->Hk H k c->Hk H' k c
abbrev all:Nat->Prop:=λzz=>True
def Keep.refl{ok:Nat->Prop}{H:Hp}:Keep ok H H:=⟨ay _,λzz zy zx h=>h⟩
def Keep.trans{ok:Nat->Prop}{H aP:Hp}(a:Keep ok H au)(b:Keep ok au aP):Keep ok H aP:=⟨aj a.len b.len,λk c o h=>b.at_ k c o (a.at_ k c o h)⟩
def Keep.weak{ok:Nat->Prop}{H H':Hp}(h:∀k,ok' k->ok k)(a:Keep ok H H'):Keep ok' H H':=⟨a.len,λk c o=>a.at_ k c (h k o)⟩
def Keep.app{ok:Nat->Prop}{H L:Hp}:Keep ok H (H++L):=⟨by erw [ag];exact bw _ _,λk c zz h=>by show(_:Option Cell)=_;erw [dm (aU.mp h).1];exact h⟩
def Keep.set{ok:Nat->Prop}{H:Hp}{k:Nat}{c:Cell}(h:¬ ok k):Keep ok H (H.set k c):=⟨by erw [iM];exact ay _,λj x o e=>by show(_:Option Cell)=_;erw [(mv (λq:k=j=>h (by erw [q];exact o)))];exact e⟩
def gJ.mono{ok:Nat->Prop}{H H':Hp}(g:∀k c,ok k->Hk H k c->ok' k/\Hk H' k c)(d:D):∀(v:AV),gJ ok H v d->gJ ok' H' v d:=by
 have one:∀{k:Nat} {c:Cell},ok k/\Hk H k c->ok' k/\Hk H' k c:=λxq1=>Nh xq1 λo e=>g _ _ o e
 induction d with
 | bool zz=>exact λzz r=>r
 | int zz=>exact λzz r=>r
 | empty=>exact λzz r=>r
 | ratio zz zy=>exact λzz xq2=>aM xq2 λk e r=>(bI k e (one r))
 | real zz zy=>exact λzz xq3=>aM xq3 λk e r=>(bI k e (one r))
 | sym zz=>exact λzz xq4=>gz xq4 λk n e r=>(kX k n e (one r))
 | char zz=>exact λzz xq5=>aM xq5 λk e r=>(bI k e (one r))
 | text zz=>exact λzz xq6=>fy xq6 λk l e o c r=>(d4 k l e ((g k _ o c).1) ((g k _ o c).2) (one r))
 | vec a b ia ib=>
  intro v r;refine Gm r λk l x y e o c o' c' r r'=>?_;exact HQ k l x y e ((g k _ o c).1) ((g k _ o c).2) ((g l _ o' c').1) ((g l _ o' c').2) (ia x r) (ib y r')
 | pair a b ia ib=>
  intro v r;refine jX r λk x y e o c r r'=>?_;exact iR k x y e ((g k _ o c).1) ((g k _ o c).2) (ia x r) (ib y r')
def gJ.keep{ok:Nat->Prop}{H H':Hp}(g:Keep ok H H'){d:D}{v:AV}(r:gJ ok H v d):gJ ok H' v d:=r.mono (λk c o e=>⟨o,g.at_ k c o e⟩) d v
abbrev g9(c:Nat):List Nat:= [35,92]++(if c=32 then [115,112,97,99,101]else if c=10 then [110,101,119,108,105,110,101]else [c])
abbrev cB:List Nat->List Nat
 | []=> []
 | c::r=>if c=34\/c=92 then 92::c::cB r else c::cB r
abbrev fQ(m e:Int):List Nat:=if m=1/\e= -1 then [48,46,53]else if m=3 then [49,46,53]else if m= -5 then [45,49,46,50,53]else if m=0 then [48,46,48]else if m=25 then [49,48,48,46,48]else [48,46,48,54,50,53]
abbrev Dh(w:Bool):D->List Nat×List Nat
 | .bool b=>dotted [35,if b then 116 else 102]
 | .int i=>dotted (dH i)
 | .empty=>([40,41],[41])
 | .ratio p q=>dotted (dH p++ [47]++dH q)
 | .real m e=>dotted (fQ m e)
 | .sym s=>dotted s
 | .char c=>dotted (if w then g9 c else [c])
 | .text cs=>dotted (if w then [34]++cB cs++ [34]else cs)
 | .vec a b=>dotted ([35,40]++(Dh w a).1++ [32]++(Dh w b).1++ [41])
 | .pair a b=>([40]++(Dh w a).1++(Dh w b).2,[32]++(Dh w a).1++(Dh w b).2)
where dotted (t:List Nat):List Nat×List Nat:=(t,[32,46,32]++t++ [41])
abbrev tx(w:Bool)(d:D):List Nat:=(Dh w d).1
abbrev tl(w:Bool)(d:D):List Nat:=(Dh w d).2
end
section
mutual
variable{k:Nat}{vs:List AV}{c:Cell}
variable{d:Nat}{ls bB:Ls}{H au aP H':Hp}{a b:E}{v x y:AV}
def aN{n:Nat}(h:n<=1000000):cG n=true:=by unfold cG;exact rQ h
def ft{us:List AV}(ha:Re d ls H a (.ref k,au))(h1:Hk au k (.list us))(hb:Re d ls au b (v,aP))(h2:Hk aP k (.list vs))(hr:cG vs.length=true):Re d ls H (.meth a 0 [b]) (.none,aP.set k (.list (vs++ [v]))):=
 r5 ha (bo h1 rfl) (by show lH 0 au[k]? =true;erw [h1];rfl) (ak hb aq) (AE h2 hr)
def JP(ha:Re d ls H a (.ref k,au))(h1:Hk au k (.list (vs++ [v])))(hr:cG (vs++ [v]).length=true):Re d ls H (.meth a 1 []) (v,au.set k (.list vs)):=
 r5 ha (bo h1 rfl) (by show lH 1 au[k]? =true;erw [h1];rfl) aq (bo h1 (by show eV (cG (vs++ [v]).length) (((vs++ [v]).getLast?).map λx=>(x,au.set k (.list (vs++ [v]).dropLast)))=_;erw [hr];simp[eV]))
def oS{m:Nat}{s:List Nat}{as:List E}{r:AV×Hp}(ha:Re d ls H a (.str s,au))(hm:(dn 4 m && dn m 10)=true)(hs:vn d ls au as (vs,aP))(h:ue s m vs aP=some r):Re d ls H (.meth a m as) r:=r5 ha rfl hm hs h
def bZ{c:Nat}{fs:List (Nat×AV)}{i:IK}(h:Hk H k (.n c fs)):kx P H i (.ref k)=some (Cy i c):=bo h rfl
def cP(h:k<H.length):Hk (H.set k c) k c:=by show(_:Option Cell)=_;erw [lh h];rfl
def cX{j:Nat}{c':Cell}(hne:k≠j)(h:Hk H j c):Hk (H.set k c') j c:=by show(_:Option Cell)=_;erw [mv hne];exact h
def bx(h:Hk H k c):k<H.length:=(aU.mp h).1
end
end
mutual
structure Pr(H:Hp)(k p q:Nat)(w:Bool)(ps:List (List Nat))(n:Int)(ws:List AV):Prop where
 hc:Hk H k (.n 24 [(50, .bool w),(42, .int 53),(51, .int 10),(27, .none),(47, .none),(52, .ref p),(53, .int n),(54, .ref q)])
 hp:Hk H p (.list (ps.map .str))
 hq:Hk H q (.list ws)
 kp:k≠p
 kq:k≠q
 pq:p≠q
def len_str{s:List Nat}{H:Hp}(h:s.length<=1000000):BS .len [.str s] H=some (.int s.length,H):=by show eV (cG s.length) _=_;erw [aN h];rfl
end
section
mutual
variable{d:Nat}{H au aP H':Hp}{k p q:Nat}{w:Bool}{ps:List (List Nat)}{n:Int}{ws:List AV}
def Pr.keep{ok:Nat->Prop}(P:Pr H k p q w ps n ws)(K:Keep ok H H')(o1:ok k)(o2:ok p)(o3:ok q):Pr H' k p q w ps n ws:=⟨K.at_ _ _ o1 P.hc,K.at_ _ _ o2 P.hp,K.at_ _ _ o3 P.hq,P.kp,P.kq,P.pq⟩
def Pr.push(P:Pr H k p q w ps n ws)(x:AV):Pr (H.set q (.list (ws++ [x]))) k p q w ps n (ws++ [x]):=⟨cX P.kq.symm P.hc,cX P.pq.symm P.hp,cP (bx P.hq),P.kp,P.kq,P.pq⟩
def Pm(Pk:Pr H k p q w ps n ws){s:List Nat}(hs:s.length<=1000000)(hp:ps.length<=1000000):∃H',aQ (d+1) H 115 [.ref k, .str s] (.none,H')/\Pr H' k p q w (ps++ [s]) (n+s.length) ws/\Keep (λj=>j≠k/\j≠p) H H':=by
 have h1:(H.set p (.list (ps.map .str++ [.str s])))[k]? =_:=cX Pk.kp.symm Pk.hc;refine eH ((H.set p (.list (ps.map .str++ [.str s]))).set k (.n 24 [(50, .bool w),(42, .int 53),(51, .int 10),(27, .none),(47, .none),(52, .ref p),(53, .int (n+s.length)),(54, .ref q)])) ?_ (⟨cP (bx h1),?_,cX Pk.kq (cX Pk.pq Pk.hq),Pk.kp,Pk.kq,Pk.pq⟩) ((Keep.set λo=>o.2 rfl).trans (Keep.set λo=>o.1 rfl))
 ·refine fB (F:=OQ) rfl rfl rfl (ux (ft (cC rfl Pk.hc rfl rfl) Pk.hp (ah rfl) Pk.hp (aN (by erw [aL];exact hp))) (lR (bT (cC rfl h1 rfl rfl) (eI (bW rfl aq) (len_str hs)) rfl) (jG (ah rfl) h1 rfl rfl) (ij (pk (gF rfl (dy (de (ah rfl) (cP (bx h1)) rfl rfl) aA rfl))) bb)))
 ·show(_:Option Cell)=_;erw [cX Pk.kp (cP (bx Pk.hp)),bc];rfl
end
end
mutual
def ba{H:Hp}{i:Nat}{c:Cell}(h1:Hk H i c)(h2:Hk H j c')(h:c≠c'):i≠j:=λe=>h (af (h1.symm.trans (e ▸h2)))
end
section
mutual
variable{i:Int}{c:Cell}
variable{d:Nat}{ls bB:Ls}{H au aP H':Hp}{k p q j:Nat}{w:Bool}{ps:List (List Nat)}{n:Int}{ws:List AV}{x y v:AV}
noncomputable abbrev n8(k p q:Nat):Nat->Prop:=λi=>i≠k/\i≠p/\i≠q
def oJ(P:Pr H k p q w ps n ws)(hr:ws.length<=1000000)(hl:ls[0]? =some (some (.ref k))){a:E}(ha:Re d ls H a (x,H)):Rs d ls H (.expr (.meth (.aT (.v 0) 54) 0 [.U [.lit (.int i),a]])) (.next,ls,H.set q (.list (ws++ [.U [.int i,x]]))):=
 sP (ft (de (ah hl) P.hc rfl rfl) P.hq (gR (gS (ak ha aq)) (aN (ab rfl))) P.hq (aN hr))
def uG(P:Pr H k p q w ps n ws){s:List Nat}(hs:s.length<=1000000)(hp:ps.length<=1000000)(hl:ls[0]? =some (some (.ref k))){a:E}(ha:Re (d+1) ls H a (.str s,H)):∃H',Rs (d+1) ls H (.expr (.meth (.v 0) 65 [a])) (.next,ls,H')/\Pr H' k p q w (ps++ [s]) (n+s.length) ws/\Keep (n8 k p q) H H':=by
 refine dt (Pm (d:=d) P hs hp) λH' h1 h2 h3=>?_;exact eH H' (sP (gD (ah hl) P.hc rfl rfl rfl (ak ha aq) h1)) h2 (h3.weak λi o=>⟨o.1,o.2.1⟩)
def Pr.ok(P:Pr H k p q w ps n ws)(h:Hk H j c)(h1:∀fs,c≠ .n 24 fs)(h2:∀vs,c≠ .list vs):n8 k p q j:=(eD (ba h P.hc (h1 _)) (ba h P.hp (h2 _)) (ba h P.hq (h2 _)))
def nu:Keep (n8 k p q) H (H.set q c):=Keep.set λo=>o.2.2 rfl
def zI(P:Pr H k p q w ps n ws)(hr:ws.length+1<=1000000)(hl:ls[0]? =some (some (.ref k))){a b:E}{i':Int}(ha:Re d ls H a (x,H))(hb:∀H',Keep (n8 k p q) H H'->Re d ls H' b (y,H')):
  ∃H',gI d ls H [.expr (.meth (.aT (.v 0) 54) 0 [.U [.lit (.int i),a]]), .expr (.meth (.aT (.v 0) 54) 0 [.U [.lit (.int i'),b]])] (.next,ls,H')/\Pr H' k p q w ps n (ws++ [.U [.int i,x], .U [.int i',y]])/\Keep (n8 k p q) H H':=by
 have P2:=P.push (.U [.int i,x]);have P3:=P2.push (.U [.int i',y]);refine eH _ (aC (oJ P (dh hr) hl ha) (aC (oJ P2 (by erw [ag];exact hr) hl (hb _ nu)) bb)) ?_ (nu.trans nu);rw[aB]at P3
 erw [aB]
 exact P3
def RG(P:Pr H k p q w ps n ws)(hj:Hk H j (.n 3 [(16,x),(17,y)]))(hr:ws.length+1<=1000000)(hp:ps.length<=1000000):∃H',aQ (d+3) H 117 [.ref k, .ref j] (.none,H')/\Pr H' k p q w (ps++ [[40]]) (n+1) (ws++ [.U [.int 2,y], .U [.int 1,x]])/\Keep (n8 k p q) H H':=by
 have oj:=P.ok hj (λzz e=>nomatch e) (λzz e=>nomatch e);refine dt (uG (d:=d+1) (ls:= [some (.ref k),some (.ref j),some .none,none,none]) (s:= [40]) P (ab rfl) hp rfl (a:= .lit (.str [40])) aA) λau h1 P1 K1=>?_;have hj1:=K1.at_ _ _ oj hj;refine dt (zI (d:=d+2) (ls:= [some (.ref k),some (.ref j),some .none,none,none]) (i:=2) (i':=1) (a:= .aT (.v 1) 17) (b:= .aT (.v 1) 16) (x:=y) (y:=x) P1 hr rfl (cC rfl hj1 rfl rfl) (λH' K=>cC rfl (K.at_ _ _ oj hj1) rfl rfl)) λaP h2 P2 K2=>?_;exact eH aP (fB (F:=OP) rfl rfl rfl (cL (eX (gO (cC rfl P.hc rfl rfl) aA rfl) aA) rfl (ij (cT rfl rfl) (aC h1 h2)))) P2 (K1.trans K2)
def Ph(P:Pr H k p q w ps n ws)(hp:ps.length<=1000000):∃H',aQ (d+3) H 118 [.ref k, .obj 0] (.none,H')/\Pr H' k p q w (ps++ [[41]]) (n+1) ws/\Keep (n8 k p q) H H':=by
 refine dt (uG (d:=d+1) (ls:= [some (.ref k),some (.obj 0),none,none]) (s:= [41]) P (ab rfl) hp rfl (a:= .lit (.str [41])) aA) λau h1 P1 K1=>?_;exact eH au (fB (F:=Il) rfl rfl rfl (aC (ff (cT rfl rfl) (aC h1 bb)) bb)) P1 K1
def Pe(P:Pr H k p q w ps n ws)(hj:Hk H j (.n 3 [(16,x),(17,y)]))(hr:ws.length+1<=1000000)(hp:ps.length<=1000000):∃H',aQ (d+3) H 118 [.ref k, .ref j] (.none,H')/\Pr H' k p q w (ps++ [[32]]) (n+1) (ws++ [.U [.int 2,y], .U [.int 1,x]])/\Keep (n8 k p q) H H':=by
 have oj:=P.ok hj (λzz e=>nomatch e) (λzz e=>nomatch e);refine dt (uG (d:=d+1) (ls:= [some (.ref k),some (.ref j),none,none]) (s:= [32]) P (ab rfl) hp rfl (a:= .lit (.str [32])) aA) λau h1 P1 K1=>?_;have hj1:=K1.at_ _ _ oj hj;refine dt (zI (d:=d+2) (ls:= [some (.ref k),some (.ref j),none,none]) (i:=2) (i':=1) (a:= .aT (.v 1) 17) (b:= .aT (.v 1) 16) (x:=y) (y:=x) P1 hr rfl (cC rfl hj1 rfl rfl) (λH' K=>cC rfl (K.at_ _ _ oj hj1) rfl rfl)) λaP h2 P2 K2=>?_;exact eH aP (fB (F:=Il) rfl rfl rfl (aC (cV (cT rfl rfl) (aC (ff (gF rfl (iZ (ah rfl) (bZ hj))) (aC h1 h2)) bb)) bb)) P2 (K1.trans K2)
def Pf(P:Pr H k p q w ps n ws)(h0:Dl v (.obj 0)=some false)(h3:kx Mine.Internal.P H (.cls 3) v=some false)(hr:ws.length+1<=1000000)(hp:ps.length<=1000000):∃H',aQ (d+3) H 118 [.ref k,v] (.none,H')/\Pr H' k p q w (ps++ [[32,46,32]]) (n+3) (ws++ [.U [.int 0, .str [41]], .U [.int 1,v]])/\Keep (n8 k p q) H H':=by
 refine dt (uG (d:=d+1) (ls:= [some (.ref k),some v,none,none]) (s:= [32,46,32]) P (ab rfl) hp rfl (a:= .lit (.str [32,46,32])) aA) λau h1 P1 K1=>?_;refine dt (zI (d:=d+2) (ls:= [some (.ref k),some v,none,none]) (i:=0) (i':=1) (a:= .lit (.str [41])) (b:= .v 1) (x:= .str [41]) (y:=v) P1 hr rfl aA (λH' K=>ah rfl)) λaP h2 P2 K2=>?_;exact eH aP (fB (F:=Il) rfl rfl rfl (aC (cV (cT rfl h0) (aC (cV (gF rfl (iZ (ah rfl) h3)) (aC h1 h2)) bb)) bb)) P2 (K1.trans K2)
end
end
mutual
def wm{i:Int}(h:i.natAbs<2 ^ 1024):fR i=true:=by unfold fR;exact cM.mpr h
def tJ:fR (-1)=true:=wm (ao (Nat.lt_two_pow_self (n:=1)) (cq (ab rfl) (ab rfl)))
end
section
mutual
variable{d:Nat}{ls bB:Ls}{H au aP H':Hp}{k p q j l:Nat}{w:Bool}{ps:List (List Nat)}{n:Int}{ws vs:List AV}{x y v:AV}
def ku(h:Hk H l (.list vs))(hr:vs.length<=1000000):BS .len [.ref l] H=some (.int vs.length,H):=by
 show(((aF H l).map jf).bind λn=>eV (cG n) (some (AV.int n,H)))=_;unfold aF
 erw [h]
 show eV (cG vs.length) _=_
 erw [aN hr];rfl
def fi{i:Nat}(h:Hk H l (.list vs))(hr:vs.length<=1000000)(hv:vs[i]? =some v):rN H (.ref l) (.int i)=some v:=by
 show((aF H l).bind λvs=>rO vs i)=_;unfold aF
 erw [h]
 show(wY i vs.length).bind (λj=>vs[j]?)=some v;unfold wY
 erw [aN hr]
 show(match cg i vs.length with | true=>some i | false=>none).bind _=_
 erw [cM.mpr (aU.mp hv).1]
 exact hv
def vY:[x,y].length<=1000000:=show 2<=1000000 from ab rfl
def Ly:gC H (.rng 1 (-1) (-1))=some (.rng 1 (-1) 2):=by
 show eV (cy 1 (-1) (-1)) (some (It.rng 1 (-1) (hO 1 (-1) (-1))))=_
 erw [(show cy 1 (-1) (-1)=true from by decide),(show hO 1 (-1) (-1)=2 from by decide)]
 rfl
def Ba{a:Int}:BS .range [.int a, .int (-1), .int (-1)] H=some (.rng a (-1) (-1),H):=by
 show eV (fR (-1) && !decide ((-1:Int)=0)) _=_
 erw [tJ];rfl
def Pj(P:Pr H k p q w ps n ws)(hj:Hk H j (.n 3 [(16,x),(17,y)]))(hr:ws.length+1<=1000000)(hp:ps.length<=1000000):∃H',aQ (d+4) H 116 [.ref k, .ref j] (.none,H')/\Pr H' k p q w (ps++ [[40]]) (n+1) (ws++ [.U [.int 2,y], .U [.int 1,x]])/\Keep (n8 k p q) H H':=by
 refine dt (RG (d:=d) P hj hr hp) λau h1 P1 K1=>?_;exact eH au (fB (F:=Im) rfl rfl rfl (aC (ff (gF rfl (iZ (ah rfl) (bZ hj))) (ux (i5 rfl P.hc rfl rfl rfl (bW rfl aq) h1) bb)) bb)) P1 K1
def Pl(P:Pr H k p q w ps n ws){s:List Nat}(h3:kx Mine.Internal.P H (.cls 3) v=some false)(h6:kx Mine.Internal.P H (.cls 6) v=some false)(ha:aQ (d+1) H 119 [.ref k,v] (.str s,au))(K:Keep all H au)(hs:s.length<=1000000)(hp:ps.length<=1000000):∃H',aQ (d+2) H 116 [.ref k,v] (.none,H')/\Pr H' k p q w (ps++ [s]) (n+s.length) ws/\Keep (n8 k p q) H H':=by
 have P1:=P.keep K trivial trivial trivial;refine dt (Pm (d:=d) P1 hs hp) λaP h1 P2 K2=>?_;exact eH aP (fB (F:=Im) rfl rfl rfl (aC (cV (gF rfl (iZ (ah rfl) h3)) (aC (cV (gF rfl (iZ (ah rfl) h6)) (ux (i5 rfl P.hc rfl rfl rfl (ak (i5 rfl P.hc rfl rfl rfl (ak (ah rfl) aq) ha) aq) h1) bb)) bb)) bb)) P2 ((K.weak λzz zy=>trivial).trans (K2.weak λi o=>⟨o.1,o.2.1⟩))
def Pi(P:Pr H k p q w ps n ws)(hj:Hk H j (.n 6 [(20, .ref l)]))(hl:Hk H l (.list [x,y]))(hlp:l≠p)(hlq:l≠q)(hr:ws.length+4<=1000000)(hp:ps.length<=1000000):
  ∃H',aQ (d+3) H 116 [.ref k, .ref j] (.none,H')/\Pr H' k p q w (ps++ [[35,40]]) (n+2) (ws++ [.U [.int 0, .str [41]], .U [.int 1,y], .U [.int 0, .str [32]], .U [.int 1,x]])/\Keep (n8 k p q) H H':=by
 have oj:=P.ok hj (λzz e=>nomatch e) (λzz e=>nomatch e);have ol:n8 k p q l:=(eD (ba hl P.hc (λe=>nomatch e)) hlp hlq);refine dt (uG (d:=d+1) (ls:= [some (.ref k),some (.ref j),none,none,none]) (s:= [35,40]) P (ab rfl) hp rfl (a:= .lit (.str [35,40])) aA) λau h1 P1 K1=>?_;have L0:∀m,ws.length+m<=1000000->∀(us:List AV),us.length=m->(ws++us).length<=1000000:=λm h us e=>by erw [ag,e];exact h
 have P2:=P1.push (.U [.int 0, .str [41]]);have P3:=P2.push (.U [.int 1,y]);have P4:=P3.push (.U [.int 0, .str [32]]);have P5:=P4.push (.U [.int 1,x]);have K2:Keep (n8 k p q) au _:=nu (c:= .list (ws++ [.U [.int 0, .str [41]]]));have hj2:=K2.at_ _ _ oj (K1.at_ _ _ oj hj);have hl2:=K2.at_ _ _ ol (K1.at_ _ _ ol hl);have K3:=(K2.trans (nu (k:=k) (p:=p) (c:= .list (ws++ [.U [.int 0, .str [41]]]++ [.U [.int 1,y]]))));have K4:=(K3.trans (nu (k:=k) (p:=p) (c:= .list (ws++ [.U [.int 0, .str [41]]]++ [.U [.int 1,y]]++ [.U [.int 0, .str [32]]]))));have hj4:=K4.at_ _ _ oj (K1.at_ _ _ oj hj);have hl4:=K4.at_ _ _ ol (K1.at_ _ _ ol hl);have r1:(ws++ [AV.U [.int 0, .str [41]]]).length<=1000000:=by erw [ag];exact aj (mP (ab rfl) _) hr
 have r2:(ws++ [AV.U [.int 0, .str [41]]]++ [AV.U [.int 1,y]]).length<=1000000:=by simp only[ag,aJ,dX];exact(cA (aK (aK ai (eT (aI 0))) (eT (aI 0))) cY [(aK ai (aI 4),cY)] aS hr)
 have r3:(ws++ [AV.U [.int 0, .str [41]]]++ [AV.U [.int 1,y]]++ [AV.U [.int 0, .str [32]]]).length<=1000000:=by simp only[ag,aJ,dX];exact(cA (aK (aK (aK ai (eT (aI 0))) (eT (aI 0))) (eT (aI 0))) cY [(aK ai (aI 4),cY)] aS hr)
 refine eH _ (fB (F:=Im) rfl rfl rfl (aC (cV (gF rfl (iZ (ah rfl) (bZ hj))) (aC (ff (gF rfl (iZ (ah rfl) (bZ hj))) (aC h1 (aC (oJ P1 (aj (bw _ _) hr) rfl aA) (aC (mN (eI (ak (bT (eI (ak (cC rfl hj2 rfl rfl) aq) (ku hl2 vY)) aA rfl) (ak (p6 aA) (ak (p6 aA) aq))) Ba) Ly
  (fq rfl rfl (aC (oJ P2 r1 rfl (dD (cC rfl hj2 rfl rfl) (ah rfl) (fi (i:=1) hl2 vY rfl))) (aC (ff (cT rfl rfl) (aC (oJ P3 r2 rfl aA) bb)) bb))
  (fq rfl rfl (aC (oJ P4 r3 rfl (dD (cC rfl hj4 rfl rfl) (ah rfl) (fi (i:=0) hl4 vY rfl))) (ij (cT rfl rfl) bb)) (iH rfl)))) bb)))) bb)) bb)) ?_ (K1.trans (K4.trans nu));have e:ws++ [AV.U [.int 0, .str [41]]]++ [.U [.int 1,y]]++ [.U [.int 0, .str [32]]]++ [.U [.int 1,x]]=ws++ [.U [.int 0, .str [41]], .U [.int 1,y], .U [.int 0, .str [32]], .U [.int 1,x]]:=by simp
 rw[e]at P5 |-
 exact P5
end
end
mutual
abbrev D.atom:D->Bool
 | .vec _ _=>false
 | .pair _ _=>false
 | _=>true
abbrev D.end_:D->Bool
 | .empty=>false
 | .pair _ _=>false
 | _=>true
abbrev sz:D->Nat
 | .vec a b=>4+sz a+sz b
 | .pair a b=>3+sz a+sz b
 | _=>1
def iG{ok:Nat->Prop}{H:Hp}{v:AV}(x:D)(h:x.atom=true)(r:gJ ok H v x):kx Mine.Internal.P H (.cls 3) v=some false/\kx Mine.Internal.P H (.cls 6) v=some false:=by
 cases x using D.casesOn with
 | bool zz=>erw [(r:v=_)];exact⟨rfl,rfl⟩
 | int zz=>erw [(r:v=_)];exact⟨rfl,rfl⟩
 | empty=>erw [(r:v=_)];exact⟨rfl,rfl⟩
 | ratio zz zy=>refine dt r λzz e zy h=>?_;erw [e];exact⟨bZ h,bZ h⟩
 | real zz zy=>refine dt r λzz e zy h=>?_;erw [e];exact⟨bZ h,bZ h⟩
 | sym zz=>refine dY r λzz zy e zx h=>?_;erw [e];exact⟨bZ h,bZ h⟩
 | char zz=>refine dt r λzz e zy h=>?_;erw [e];exact⟨bZ h,bZ h⟩
 | text zz=>refine fy r λzz zy e zx h zw=>?_;erw [e];exact⟨bZ h,bZ h⟩
 | _=>exact(nH h).elim
def HJ{ok:Nat->Prop}{H:Hp}{v:AV}(x:D)(h:x.end_=true)(r:gJ ok H v x):Dl v (.obj 0)=some false/\kx Mine.Internal.P H (.cls 3) v=some false/\∀w,tl w x= [32,46,32]++tx w x++ [41]:=by
 cases x using D.casesOn with
 | bool zz=>erw [(r:v=_)];exact eD rfl rfl (λzz=>rfl)
 | int zz=>erw [(r:v=_)];exact eD rfl rfl (λzz=>rfl)
 | ratio zz zy=>refine dt r λzz e zy h=>?_;erw [e];exact eD rfl (bZ h) (λzz=>rfl)
 | real zz zy=>refine dt r λzz e zy h=>?_;erw [e];exact eD rfl (bZ h) (λzz=>rfl)
 | sym zz=>refine dY r λzz zy e zx h=>?_;erw [e];exact eD rfl (bZ h) (λzz=>rfl)
 | char zz=>refine dt r λzz e zy h=>?_;erw [e];exact eD rfl (bZ h) (λzz=>rfl)
 | text zz=>refine fy r λzz zy e zx h zw=>?_;erw [e];exact eD rfl (bZ h) (λzz=>rfl)
 | vec zz zy=>refine w5 r λzz zy zx zw e zv h zu=>?_;erw [e];exact eD rfl (bZ h) (λzz=>rfl)
 | _=>exact(nH h).elim
abbrev names:List (List Nat):= [[97],[98,50],[108,105,115,116,45,62,118,101,99,116,111,114],[43],[45],[46,46,46],[33,120],[97,46,98],[60,61,63],[113,64],[113,117,111,116,101],[101,53],[120,45,49,43],[117,110,113,117,111,116,101]]
abbrev mm:List Nat:= [34,92,10,32,40,41,59,39,35,97,65,9,955,124]
abbrev m5:List (Int×Int):= [(1,-1),(3,-1),(-5,-2),(0,0),(25,2),(1,-4)]
abbrev D.good:D->Prop
 | .int i=> -1000<=i/\i<1000
 | .ratio p q=>2<=q/\q<10/\∃k:Int,-10<=k/\k<10/\p=q*k+1
 | .real m e=>(m,e)∈m5
 | .sym s=>s∈names
 | .char c=>(33<=c/\c<95)\/c∈mm
 | .text cs=>cs.length<=4/\∀c∈cs,c∈mm
 | .vec a b=>a.good/\b.good
 | .pair a b=>a.good/\b.good
 | _=>True
class inductive Stk(w:Bool)(ok:Nat->Prop)(H:Hp):List AV->List Nat->Nat->Prop
 | nil:Stk w ok H [] [] 0
 | str {ws t n s}:Stk w ok H ws t n->Stk w ok H (ws++ [.U [.int 0, .str s]]) (s++t) (n+1)
 | dat {ws t n v x}:Stk w ok H ws t n->gJ ok H v x->x.good->Stk w ok H (ws++ [.U [.int 1,v]]) (tx w x++t) (n+sz x)
 | tai {ws t n v x}:Stk w ok H ws t n->gJ ok H v x->x.good->Stk w ok H (ws++ [.U [.int 2,v]]) (tl w x++t) (n+sz x+2)
def Stk.keep{w:Bool}{ok:Nat->Prop}{H H':Hp}(K:Keep ok H H'){ws:List AV}{t:List Nat}{n:Nat}(h:Stk w ok H ws t n):Stk w ok H' ws t n:=by
 induction h with
 | nil=>exact .nil
 | str zz ih=>exact .str ih
 | dat zz r g ih=>exact .dat ih (r.keep K) g
 | tai zz r g ih=>exact .tai ih (r.keep K) g
def lS:∀x:D,1<=sz x
 | .vec _ _=>by simp only[sz];exact(bF (aI 1) (aK (aK (aI 4) ai) az) [] aS)
 | .pair _ _=>by simp only[sz];exact(bF (aI 1) (aK (aK (aI 3) ai) az) [] aS)
 | .bool _=>ay _
 | .int _=>ay _
 | .empty=>ay _
 | .ratio _ _=>ay _
 | .real _ _=>ay _
 | .sym _=>ay _
 | .char _=>ay _
 | .text _=>ay _
def Stk.len{w:Bool}{ok:Nat->Prop}{H:Hp}{ws:List AV}{t:List Nat}{n:Nat}(h:Stk w ok H ws t n):ws.length<=n:=by
 induction h with
 | nil=>exact ay _
 | str zz ih=>erw [ag];exact t8 ih 1
 | dat zz zy zx ih=>erw [ag];exact Nat.add_le_add ih (lS _)
 | tai zz zy zx ih=>erw [ag];exact aj (Nat.add_le_add ih (lS _)) (bw _ 2)
abbrev lu:Prop:= ∀{d:Nat} {H:Hp} {k p q:Nat} {w:Bool} {ps:List (List Nat)} {n:Int} {ws:List AV} {v:AV} (x:D),Pr H k p q w ps n ws->gJ (n8 k p q) H v x->x.good->x.atom=true->∃H',aQ (d+20) H 119 [.ref k,v] (.str (tx w x),H')/\Keep all H H'
end
section
mutual
variable{t:List Nat}{N:Nat}{i:Int}{ls:Ls}
variable{d:Nat}{H au aP H':Hp}{k p q j:Nat}{w:Bool}{ps:List (List Nat)}{n:Int}{ws:List AV}{x y v:AV}
def Ge{x:AV}(P:Pr H k p q w ps n (ws++ [x])):Pr (H.set q (.list ws)) k p q w ps n ws:=⟨cX P.kq.symm P.hc,cX P.pq.symm P.hp,cP (bx P.hq),P.kp,P.kq,P.pq⟩
def Np(A:lu)(P:Pr H k p q w ps n ws)(S:Stk w (n8 k p q) H ws t N)(x:D)(r:gJ (n8 k p q) H v x)(g:x.good)(h1:ps.length+N+sz x<=1000000)(h2:ps.flatten.length+(tx w x++t).length<=1000000):
  ∃H' ps' ws' t' N' n',aQ (d+22) H 116 [.ref k,v] (.none,H')/\Pr H' k p q w ps' n' ws'/\Keep (n8 k p q) H H'/\Stk w (n8 k p q) H' ws' t' N'/\ps'.flatten++t'=ps.flatten++(tx w x++t)/\N'<N+sz x/\ps'.length+N'<=1000000:=by
 have hp:ps.length<=1000000:=aj (bw _ _) (aj (bw _ _) h1);have hw:=S.len;cases hx:x.atom with
 | true=>
  refine aM (A (d:=d+1) x P r g hx) λau e1 K1=>?_;obtain⟨i3,i6⟩:=iG x hx r;rw[ag]at h2;refine dt (Pl (d:=d+20) P i3 i6 e1 K1 (aj (aj (bw _ _) (eF _ _)) h2) hp) λaP e2 P2 K2=>?_;exact Ac aP _ _ t N _ e2 P2 K2 (S.keep K2) (by simp) (qm (lS x)) (by have:=lS x;simp only[ag,aJ,dX];exact(gn (aK (aK ai (eT (aI 0))) az) cY [(aK (aK ai az) bH,cY),(aI 1,bH)] aS h1 this))
 | false=>
  cases x using D.casesOn with
  | vec a b=>
   refine Gm r λj l x y e oj hj ol hl ra rb=>?_;subst e;have hs:sz (.vec a b)=4+sz a+sz b:=rfl;have pa:=lS a;have pb:=lS b;refine dt (Pi (d:=d+19) P hj hl ol.2.1 ol.2.2 (by exact(OA (aK ai (aI 4)) cY [(ai,az),(aK (aK bH az) cQ,cY),((aK (aK (aI 4) nW) N4),cQ)] aS hw h1 (lz hs))) hp) λaP e2 P2 K2=>?_;refine Ac aP _ _ (tx w a++([32]++(tx w b++([41]++t)))) (N+1+sz b+1+sz a) _ e2 P2 K2 ?_ ?_ (by exact(gV (eT (aK (eT (aK bh az)) bH)) (aK ai cQ) [((aK (aK (aI 4) bH) az),cQ)] aS (lz hs))) (by simp only[ag,aJ,dX];exact(Aj (aK (aK ai (eT (aI 0))) (aK (eT (aK cO bH)) cQ)) cY [((aK (aK (aI 4) cQ) bH),nW),(aK (aK ai az) nW,cY)] aS (lz hs) h1))
   ·have S':=S.keep K2;have:=Stk.dat (Stk.str (Stk.dat (Stk.str S' (s:= [41])) (rb.keep K2) g.2) (s:= [32])) (ra.keep K2) g.1;simpa using this
   ·show _=ps.flatten++([35,40]++tx w a++ [32]++tx w b++ [41]++t);simp
  | pair a b=>
   refine jX r λj x y e oj hj ra rb=>?_;subst e;have hs:sz (.pair a b)=3+sz a+sz b:=rfl;have pa:=lS a;have pb:=lS b;refine dt (Pj (d:=d+18) P hj (by exact(OA bh cY [(ai,az),(aK (aK bH az) cQ,cY),((aK (aK (aI 3) nW) N4),cQ)] aS hw h1 (lz hs))) hp) λaP e2 P2 K2=>?_;refine Ac aP _ _ (tx w a++(tl w b++t)) (N+sz b+2+sz a) _ e2 P2 K2 ?_ ?_ (by exact(gV (eT (aK (aK (aK ai az) (aI 2)) bH)) (aK ai cQ) [((aK (aK (aI 3) bH) az),cQ)] aS (lz hs))) (by simp only[ag,aJ,dX];exact(Aj (aK (aK ai (eT (aI 0))) (aK (aK (aK az bH) (aI 2)) cQ)) cY [((aK (aK (aI 3) cQ) bH),nW),(aK (aK ai az) nW,cY)] aS (lz hs) h1))
   ·have:=Stk.dat (Stk.tai (S.keep K2) (rb.keep K2) g.2) (ra.keep K2) g.1;simpa using this
   ·show _=ps.flatten++([40]++tx w a++tl w b++t);simp
  | _=>exact nomatch hx
def turn2(P:Pr H k p q w ps n ws)(S:Stk w (n8 k p q) H ws t N)(x:D)(r:gJ (n8 k p q) H v x)(g:x.good)(h1:ps.length+N+sz x+2<=1000000):
  ∃H' ps' ws' t' N' n',aQ (d+3) H 118 [.ref k,v] (.none,H')/\Pr H' k p q w ps' n' ws'/\Keep (n8 k p q) H H'/\Stk w (n8 k p q) H' ws' t' N'/\ps'.flatten++t'=ps.flatten++(tl w x++t)/\N'<N+sz x+2/\ps'.length+N'<=1000000:=by
 have hp:ps.length<=1000000:=aj (bw _ _) (aj (bw _ _) (aj (bw _ _) h1));have hw:=S.len;have px:=lS x;cases hx:x.end_ with
 | true=>
  refine kI (HJ x hx r) λh0 h3 e=>?_;refine dt (Pf (d:=d) P h0 h3 (by exact(gV bh cY [(ai,az),((aK (aK (aK bH az) cQ) (aI 2)),cY)] aS hw h1)) hp) λaP e2 P2 K2=>?_;refine Ac aP _ _ (tx w x++([41]++t)) (N+1+sz x) _ e2 P2 K2 ?_ ?_ (by exact(bF (eT (aK bh az)) (aK (aK ai az) (aI 2)) [] aS)) (by simp only[ag,aJ,dX];exact(gn (aK (aK ai (eT (aI 0))) (aK cO bH)) cY [((aK (aK (aK ai az) bH) (aI 2)),cY)] aS h1))
  ·have:=Stk.dat (Stk.str (S.keep K2) (s:= [41])) (r.keep K2) g;simpa using this
  ·erw [e];simp
 | false=>
  cases x using D.casesOn with
  | empty=>
   cases (r:v=_)
   refine dt (Ph (d:=d) P hp) λaP e2 P2 K2=>?_;exact Ac aP _ _ t N _ e2 P2 K2 (S.keep K2) (by show _=ps.flatten++([41]++t);simp) (by exact bw ..) (by simp only[ag,aJ,dX];lia)
  | pair a b=>
   refine jX r λj x y e oj hj ra rb=>?_;subst e;have hs:sz (.pair a b)=3+sz a+sz b:=rfl;refine dt (Pe (d:=d) P hj (by exact(gV bh cY [(ai,az),((aK (aK (aK bH az) cQ) (aI 2)),cY)] aS hw h1)) hp) λaP e2 P2 K2=>?_;refine Ac aP _ _ (tx w a++(tl w b++t)) (N+sz b+2+sz a) _ e2 P2 K2 ?_ ?_ (by exact(gV (eT (aK (aK (aK ai az) (aI 2)) bH)) (aK (aK ai cQ) (aI 2)) [((aK (aK (aI 3) bH) az),cQ)] aS (lz hs))) (by simp only[ag,aJ,dX];exact(Aj (aK (aK ai (eT (aI 0))) (aK (aK (aK az bH) (aI 2)) cQ)) cY [((aK (aK (aI 3) cQ) bH),nW),((aK (aK (aK ai az) nW) (aI 2)),cY)] aS (lz hs) h1))
   ·have:=Stk.dat (Stk.tai (S.keep K2) (rb.keep K2) g.2) (ra.keep K2) g.1;simpa using this
   ·show _=ps.flatten++([32]++tx w a++tl w b++t);simp
  | _=>exact nomatch hx
noncomputable abbrev Nq:S:=(.while (.j .ne (.aT (.v 0) 54) (.list [])) [(.aS (.U [(.v 2),(.v 3)]) (.meth (.aT (.v 0) 54) 1 [])),(.ite (.j .eq (.v 2) (.lit (.int 0))) [(.expr (.meth (.v 0) 65 [(.v 3)]))] [(.ite (.j .eq (.v 2) (.lit (.int 1))) [(.expr (.meth (.v 0) 29 [(.v 3)]))] [(.expr (.meth (.v 0) 45 [(.v 3)]))])])])
def za{y:AV}(P:Pr H k p q w ps n (ws++ [.U [.int i,y]]))(h0:ls[0]? =some (some (.ref k))):Rt d ls H (.j .ne (.aT (.v 0) 54) (.list [])) (true,H++ [.list []]):=
 gO (de (ah h0) P.hc rfl rfl) (fK aq (aN (aY _))) (by
  have:Gj (H++ [.list []]) (.ref q) (.ref H.length)=some false:=by
   refine bo (a:=ws++ [.U [.int i,y]]) ?_ (bo (a:= []) ?_ ?_)
   ·unfold aF;erw [bD P.hq];rfl
   ·unfold aF;erw [aV];rfl
   ·erw [(show aX (ws++ [AV.U [.int i,y]]).length ([]:List AV).length=false from by erw [ag];rfl)];rfl
  exact mo this)
def Kq(P:Pr H k p q w ps n [])(h0:ls[0]? =some (some (.ref k))):Rt d ls H (.j .ne (.aT (.v 0) 54) (.list [])) (false,H++ [.list []]):=
 gO (de (ah h0) P.hc rfl rfl) (fK aq (aN (aY _))) (by
  have:Gj (H++ [.list []]) (.ref q) (.ref H.length)=some true:=by
   refine bo (a:= []) ?_ (bo (a:= []) ?_ rfl)
   ·unfold aF;erw [bD P.hq];rfl
   ·unfold aF;erw [aV];rfl
  exact mo this)
def zb{y:AV}{v0 x2 x3:Option AV}(P:Pr H k p q w ps n (ws++ [.U [.int i,y]]))(hr:ws.length+1<=1000000):Rs d [some (.ref k),v0,x2,x3,none,none] H (.aS (.U [(.v 2),(.v 3)]) (.meth (.aT (.v 0) 54) 1 [])) (.next,[some (.ref k),v0,some (.int i),some y,none,none],H.set q (.list ws)):=
 iU (JP (cC rfl P.hc rfl rfl) P.hq (aN (by erw [ag];exact hr))) (mr (dj (eu rfl) (dj (eu rfl) jF)))
def B6(A:lu)(v0:Option AV):∀(M:Nat) {H:Hp} {ps:List (List Nat)} {n:Int} {ws:List AV} {t:List Nat} {N:Nat} {x2 x3:Option AV},N<M->Pr H k p q w ps n ws->Stk w (n8 k p q) H ws t N->ps.length+N<=1000000->(ps.flatten++t).length<=1000000->
  ∃H' ps' n' x2' x3',Rs (d+22) [some (.ref k),v0,x2,x3,none,none] H Nq (.next,[some (.ref k),v0,x2',x3',none,none],H')/\Pr H' k p q w ps' n' []/\Keep (n8 k p q) H H'/\ps'.flatten=ps.flatten++t/\ps'.length<=1000000:=by
 intro M
 induction M with
 | zero=>exact λh=>absurd h (Nat.not_lt_zero _)
 | succ M ih=>
  intro H ps n ws t N x2 x3 hM P S h1 h2;have hl:=S.len
  cases S using Stk.casesOn with
  | nil=>exact EX _ ps n _ _ (eS (Kq P rfl)) (P.keep (ok:=all) Keep.app trivial trivial trivial) (Keep.app.weak (λzz zy=>trivial)) ((br _).symm) h1
  | @str ws t N s S=>
   have P1:=P.keep (ok:=all) (Keep.app (L:= [.list []])) trivial trivial trivial;have P2:=Ge P1;have K2:Keep (n8 k p q) H _:=(Keep.app.weak (ok:=all) (λzz zy=>trivial)).trans (nu (H:=H++ [.list []]) (c:= .list ws));have hl':=S.len;rw[ag,ag]at h2;refine dt (uG (d:=d+21) (ls:= [some (.ref k),v0,some (.int 0),some (.str s),none,none]) (s:=s) P2 (by exact(gn ai cY [(aK az (aK ai bH),cY)] aS h2)) (by exact(bF ai cY [(aK ai cO,cY)] aS h1)) rfl (a:= .v 3) (ah rfl)) λdM e3 P3 K3=>?_;have K:=K2.trans K3;refine Dp (ih (x2:=some (.int 0)) (x3:=some (.str s)) (Nat.lt_of_succ_lt_succ hM) P3 (S.keep K) (by erw [ag];exact(gr _ _ _ ▸h1)) (by simp only[List.flatten_append,lj,List.flatten_nil,br,ag];exact(gn (aK (aK ai az) bH) cY [(aK ai (aK az bH),cY)] aS h2))) λmL ps' n' x2' x3' e4 P4 K4 f4 l4=>?_;exact EX mL ps' n' x2' x3' (eR (za P rfl) (aC (zb P1 (by exact(gn bh cY [(ai,az),(aK bH cO,cY)] aS hl' h1))) (aC (ff (cT rfl rfl) (aC e3 bb)) bb)) e4) P4 (K.trans K4) (by erw [f4];simp) l4
  | @dat ws t N v x S r g=>
   have P1:=P.keep (ok:=all) (Keep.app (L:= [.list []])) trivial trivial trivial;have P2:=Ge P1;have K2:Keep (n8 k p q) H _:=(Keep.app.weak (ok:=all) (λzz zy=>trivial)).trans (nu (H:=H++ [.list []]) (c:= .list ws));have hl':=S.len;refine Do (Np (d:=d) A P2 (S.keep K2) x (r.keep K2) g (by exact(gn (aK (aK ai az) bH) cY [(aK ai (aK az bH),cY)] aS h1)) (by erw [<- ag];exact h2)) λdM ps1 ws1 t1 N1 n1 e3 P3 K3 S3 f3 d3 l3=>?_;have K:=K2.trans K3;refine Dp (ih (x2:=some (.int 1)) (x3:=some v) (by exact(gV bh az [(bh,aK bH cQ),(eT (aK bH cQ),cO)] aS d3 hM)) P3 S3 l3 (by erw [f3];exact h2)) λmL ps' n' x2' x3' e4 P4 K4 f4 l4=>?_;exact EX mL ps' n' x2' x3' (eR (za P rfl) (aC (zb P1 (by have:=lS x;exact(gV bh cY [(ai,az),(aK bH (aK az cQ),cY),(aI 1,cQ)] aS hl' h1 this))) (aC (cV (cT rfl rfl) (aC (ff (cT rfl rfl) (ux (i5 rfl P2.hc rfl rfl rfl (bW rfl aq) e3) bb)) bb)) bb)) e4) P4 (K.trans K4) (by erw [f4];exact f3) l4
  | @tai ws t N v x S r g=>
   have P1:=P.keep (ok:=all) (Keep.app (L:= [.list []])) trivial trivial trivial;have P2:=Ge P1;have K2:Keep (n8 k p q) H _:=(Keep.app.weak (ok:=all) (λzz zy=>trivial)).trans (nu (H:=H++ [.list []]) (c:= .list ws));have hl':=S.len;refine Do (turn2 (d:=d+19) P2 (S.keep K2) x (r.keep K2) g (by exact(gn (aK (aK (aK ai az) bH) (aI 2)) cY [((aK ai (aK (aK az bH) (aI 2))),cY)] aS h1))) λdM ps1 ws1 t1 N1 n1 e3 P3 K3 S3 f3 d3 l3=>?_;have K:=K2.trans K3;refine Dp (ih (x2:=some (.int 2)) (x3:=some v) (by exact(gV bh az [(bh,aK (aK bH cQ) (aI 2)),((eT (aK (aK bH cQ) (aI 2))),cO)] aS d3 hM)) P3 S3 l3 (by erw [f3];exact h2)) λmL ps' n' x2' x3' e4 P4 K4 f4 l4=>?_;exact EX mL ps' n' x2' x3' (eR (za P rfl) (aC (zb P1 (by exact(gV bh cY [(ai,az),((aK bH (aK (aK az cQ) (aI 2))),cY)] aS hl' h1))) (aC (cV (cT rfl rfl) (aC (cV (cT rfl rfl) (ux (i5 rfl P2.hc rfl rfl rfl (bW rfl aq) e3) bb)) bb)) bb)) e4) P4 (K.trans K4) (by erw [f4];exact f3) l4
end
end
mutual
def su:∀ps:List (List Nat),gY (ps.map .str)=some ps
 | []=>rfl
 | s::r=>by show(gY (r.map .str)).map (s::·)=_;erw [su r];rfl
def uT:∀ps:List (List Nat),oh [] ps=ps.flatten
 | []=>rfl
 | [x]=>(br x).symm
 | x::y::r=>by show x++ []++oh [] (y::r)=_;erw [uT (y::r),br];rfl
def yr:∀ps:List (List Nat),ps.foldr (λx n=>x.length+([]:List Nat).length+n) 0=ps.flatten.length
 | []=>rfl
 | x::r=>by erw [List.foldr_cons,yr r,lj,ag];rfl
def uS{ps:List (List Nat)}(h1:ps.length<=1000000)(h2:ps.flatten.length<=1000000):j6 [] (ps.map .str)=some (.str ps.flatten):=by
 unfold j6
 erw [su]
 show(match cG (ps.foldr _ 0) && cG (ps.map AV.str).length with | true=>some (AV.str (oh [] ps)) | false=>none)=_
 erw [yr,aN h2,aL,aN h1,uT]
 rfl
def B7{H:Hp}{ps:List (List Nat)}(h:Hk H l (.list (ps.map .str)))(h1:ps.length<=1000000)(h2:ps.flatten.length<=1000000):ue [] 6 [.ref l] H=some (.str ps.flatten,H):=by
 show(aF H l).bind (λvs=>(j6 [] vs).map (·,H))=_;unfold aF
 erw [h]
 exact mo (uS h1 h2)
def oV{d:Nat}{ls:Ls}{H:Hp}{a:E}{ps:List (List Nat)}(ha:Re d ls H a (.ref l,au))(h:Hk au l (.list (ps.map .str)))(h1:ps.length<=1000000)(h2:ps.flatten.length<=1000000):Re d ls H (.meth (.lit (.str [])) 6 [a]) (.str ps.flatten,au):=
 oS aA rfl (ak ha aq) (B7 h h1 h2)
end
section
mutual
variable{c c':Cell}
variable{d:Nat}{H au aP H':Hp}{k p q:Nat}{w:Bool}{v:AV}
def ym:Hk ((H++ [c])++ [c']) (H.length+1) c':=by erw [(show H.length+1=(H++ [c]).length from by erw [ag];rfl)];exact aV
def E2{c'':Cell}:Hk (((H++ [c])++ [c'])++ [c'']) (H.length+2) c'':=by erw [(show H.length+2=((H++ [c])++ [c']).length from by erw [ag,ag];rfl)];exact aV
def RH(A:lu)(P:Pr H k p q w [] 0 [])(x:D)(r:gJ (n8 k p q) H v x)(g:x.good)(h1:sz x<=900000)(h2:(tx w x).length<=1000000):∃H',aQ (d+23) H 114 [.ref k,v] (.str (tx w x),H')/\Keep (n8 k p q) H H':=by
 have P1:=P.push (.U [.int 1,v]);have K1:Keep (n8 k p q) H _:=nu (c:= .list ([]++ [.U [.int 1,v]]));refine Dp (B6 (d:=d) A (some v) _ (x2:=none) (x3:=none) (cJ _) P1 (Stk.dat .nil (r.keep K1) g) (by show 0+(0+sz x)<=_;exact(cA (aK (aI 0) (aK (aI 0) ai)) cY [(ai,aI 900000)] aS h1)) (by show(tx w x++ []).length<=_;erw [br];exact h2)) λaP ps n x2 x3 e2 P2 K2 f2 l2=>?_;have f3:ps.flatten=tx w x:=f2.trans (br _);refine bI aP ?_ (K1.trans K2);have:=bz (f:=114) (F:=OR) (d:=d+22) (H:=H) (args:= [.ref k,v]) rfl rfl rfl (aC (oJ (ls:= [some (.ref k),some v,none,none,none,none]) P (aY _) rfl (ah rfl)) (aC e2 (fx (oV (cC rfl P2.hc rfl rfl) P2.hp l2 (f3 ▸h2)))));rw[f3]at this;exact this
def RJ:∃H',aQ (d+1) (H++ [.n 24 []]) 113 [.ref H.length, .bool w, .int 53, .int 10, .none, .none] (.none,H')/\Pr H' H.length (H.length+1) (H.length+2) w [] 0 []/\Keep (λj=>j<H.length) H H':=by
 have n1:H.length≠H.length+1:=aE (cJ _);have n2:H.length≠H.length+2:=aE (qm (cI 1));have n3:H.length+1≠H.length+2:=aE (cJ _);have e1:∀c:Cell,(H++ [c]).length=H.length+1:=λc=>ag;have e2:∀c c':Cell,((H++ [c])++ [Cell.list []]).set H.length c'=(H++ [c'])++ [.list []]:=λc c'=>by erw [(List.set_append_left _ _ (by erw [e1];exact cJ _)),lF];rfl
 have e3:∀c c':Cell,(((H++ [c])++ [Cell.list []])++ [Cell.list []]).set H.length c'=((H++ [c'])++ [.list []])++ [.list []]:=λc c'=>by erw [(List.set_append_left _ _ (by erw [ag,e1];exact qm (cI 1))),e2];rfl
 refine eH (((H++ [.n 24 [(50, .bool w),(42, .int 53),(51, .int 10),(27, .none),(47, .none),(52, .ref (H.length+1)),(53, .int 0),(54, .ref (H.length+2))]])++ [.list []])++ [.list []]) ?_ (⟨bD (bD aV),bD ym,E2,n1,n2,n3⟩) ((Keep.app.trans Keep.app).trans Keep.app)
 ·refine fB (F:=OS) (ls':= [some (.ref H.length),some (.bool w),some (.int 53),some (.int 10),some .none,some .none,none,none]) rfl rfl rfl (aC (dU rfl (ah rfl) rfl rfl) (aC (dU rfl (ah rfl) rfl rfl) (aC (dU rfl (ah rfl) rfl rfl) (aC (dU rfl (ah rfl) rfl rfl) (aC (dU rfl (ah rfl) rfl rfl)
   (lR (fK aq (aN (aY _))) (jG (ah rfl) (bD aV) rfl rfl) (lR aA (jG (ah rfl) (e2 _ _ ▸bD aV) rfl rfl) (lR (fK aq (aN (aY _))) (jG (c:=24) (fs:= [(50, .bool w),(42, .int 53),(51, .int 10),(27, .none),(47, .none),(52, .ref (H++ [Cell.n 24 [(50, .bool w),(42, .int 53),(51, .int 10),(27, .none),(47, .none)]]).length),(53, .int 0)]) (ah rfl) ?_ rfl rfl) ?_))))))))
  ·erw [e2,e2];exact bD (bD aV)
  ·simp only[e2,e3,ag];exact bb
def Bd(A:lu)(x:D)(r:gJ all H v x)(g:x.good)(h1:sz x<=900000)(h2:(tx w x).length<=1000000){ls:Ls}{as:List E}{a:E}(hs:vn (d+23) ls H as ([.bool w, .int 53, .int 10, .none, .none],H))(ha:∀H,Re (d+23) ls H a (v,H)):∃H',Re (d+23) ls H (.meth (.new 24 as) 55 [a]) (.str (tx w x),H')/\Keep all H H':=by
 refine dt (RJ (d:=d+22) (H:=H) (w:=w)) λau e1 P1 K1=>?_;have r1:gJ (n8 H.length (H.length+1) (H.length+2)) au v x:=r.mono (λk c zz e=>by have:=bx e;exact⟨⟨aE this,aE (ow this),aE (ao this (bw _ _))⟩,K1.at_ _ _ this e⟩) x v;refine aM (RH (d:=d) A P1 x r1 g h1 h2) λaP e2 K2=>?_;refine⟨aP,gD (gH hs rfl e1) P1.hc rfl rfl rfl (ak (ha _) aq) e2,aj K1.len K2.len,λk c zz e=>?_⟩;have:=bx e;exact K2.at_ _ _ (eD (aE this) (aE (ow this)) (aE (ao this (bw _ _)))) (K1.at_ _ _ this e)
def Pc(A:lu)(x:D)(r:gJ all H v x)(g:x.good)(h1:sz x<=900000)(h2:(tx true x).length<=1000000):∃H',aQ (d+24) H 120 [v] (.str (tx true x),H')/\Keep all H H':=by
 refine aM (Bd (d:=d) A x r g h1 h2 (ls:= [some v,some (.int 53),some (.int 10),some .none,some .none,none,none]) (as:= [.lit (.bool true), .v 1, .v 2, .v 3, .v 4]) (a:= .v 0) (gS (bW rfl (bW rfl (ak (ah rfl) (ak (ah rfl) aq))))) (λzz=>ah rfl)) λH' e K=>?_;exact bI H' (bz (F:=OO) rfl rfl rfl (fx e)) K
def RF(A:lu)(x:D)(r:gJ all H v x)(g:x.good)(h1:sz x<=900000)(h2:(tx false x).length<=1000000):∃H',aQ (d+24) H 121 [v] (.str (tx false x),H')/\Keep all H H':=by
 refine aM (Bd (d:=d) A x r g h1 h2 (ls:= [some v,some (.int 53),some (.int 10),some .none,none,none]) (as:= [.lit (.bool false), .v 1, .v 2, .v 3, .lit .none]) (a:= .v 0) (gS (bW rfl (bW rfl (ak (ah rfl) (ak aA aq))))) (λzz=>ah rfl)) λH' e K=>?_;exact bI H' (bz (F:=ON) rfl rfl rfl (fx e)) K
end
end
mutual
abbrev L5:Nat->Nat->List Nat
 | 0,_=> []
 | f+1,n=>match n with
  | 0=> []
  | n+1=>(48+(n+1) % 10)::L5 f ((n+1) / 10)
def sY:∀{n:Nat},n<=1000->bR n=match n with | 0=> [48] | n+1=>(L5 4 (n+1)).reverse:=by
 intro n h;have:((cS 1001).all λn=>decide (bR n=match n with | 0=> [48] | n+1=>(L5 4 (n+1)).reverse))=true:=by decide+kernel
 exact of_decide_eq_true (aT.mp this n (List.mem_range.mpr (lg h)))
def jb{H:Hp}{s:List Nat}{i c:Nat}(h:s[i]? =some c)(hr:s.length<=1000000):rN H (.str s) (.int i)=some (.str [c]):=by
 show(wY i s.length).bind (λj=>(s[j]?).map λc=>AV.str [c])=_;unfold wY
 erw [aN hr]
 show(match cg i s.length with | true=>some i | false=>none).bind _=_
 erw [cM.mpr (aU.mp h).1]
 exact mo h
def Ie{H:Hp}{m:Nat}(h:m<10):rN H (.str [48,49,50,51,52,53,54,55,56,57,97,98,99,100,101,102]) (.int m)=some (.str [48+m]):=
 jb ((by decide:∀m<10,([48,49,50,51,52,53,54,55,56,57,97,98,99,100,101,102]:List Nat)[m]? =some (48+m)) m h) (ab rfl)
def wx:∀f n,(L5 f n).length<=f
 | 0,_=>ay _
 | f+1,0=>aY _
 | f+1,n+1=>dB (wx f _)
end
section
mutual
variable{d:Nat}{H au aP H':Hp}
noncomputable abbrev Q0:S:=(.while (.j .gt (.v 0) (.lit (.int 0))) [(.aS (.U [(.v 0),(.v 3)]) (.bi .divmod [(.v 0),(.v 1)])),(.expr (.meth (.v 2) 0 [(.idx (.lit (.str [48,49,50,51,52,53,54,55,56,57,97,98,99,100,101,102])) (.v 3))]))])
def Fk{n:Nat}:BS .divmod [.int n, .int 10] H=some (.U [.int ((n / 10:Nat):Int), .int ((n % 10:Nat):Int)],H):=by
 show eV (fR 10 && !decide ((10:Int)=0)) (some (AV.U [.int (lq n 10), .int (gu n 10)],H))=_
 erw [(wm (i:=10) (ao (show 10<2 ^ 4 from ab (n:=11) rfl) (cq (ab rfl) (ab rfl)))),(show lq n 10=((n / 10:Nat):Int)from by erw [(Int.fdiv_eq_ediv_of_nonneg _ (by decide))];rfl),(show gu n 10=((n % 10:Nat):Int)from by erw [(Int.fmod_eq_emod_of_nonneg _ (by decide))];rfl)]
 rfl
def yv{l4 l5:Option AV}:∀(f n:Nat) (us:List (List Nat)) (x3:Option AV),n<10 ^ f->us.length+f<=1000000->∃n' x3',Rs d [some (.int n),some (.int 10),some (.ref H.length),x3,l4,l5] (H++ [.list (us.map .str)]) Q0 (.next,[some n',some (.int 10),some (.ref H.length),x3',l4,l5],H++ [.list ((us++(L5 f n).map λc=> [c]).map .str)])
 | f,0,us,x3,_,_=>⟨_,_,by
  have:L5 f 0= []:=by induction f using bM <;> rfl
  erw [this,mU,br]
  exact eS (cT rfl rfl)⟩
 | 0,n+1,us,x3,h,_=>absurd h (iA.mpr (eF _ _))
 | f+1,n+1,us,x3,h,hu=>by
  obtain⟨n',x3',e⟩:=yv f ((n+1) / 10) (us++ [[48+(n+1) % 10]]) (some (.int ((n+1) % 10:Nat))) (Nat.div_lt_of_lt_mul (by rw[Nat.pow_succ,Nat.mul_comm]at h;exact h)) (by erw [ag];simp only[aJ,dX];exact(bF (aK (aK ai (eT (aI 0))) az) cY [(aK ai cO,cY)] aS hu));refine uj n' x3' (eR (cT rfl ?_) (lR (eI (bW rfl (bW rfl aq)) Fk) (mr (dj (eu rfl) (dj (eu rfl) jF))) (ux (ft (ah rfl) aV (dD aA (ah rfl) (Ie (Nat.mod_lt _ (cI _)))) aV (aN (by erw [aL];exact(bF ai cY [(aK ai cO,cY)] aS hu)))) bb)) ?_)
  ·exact dT (Int.natCast_pos.mpr (k9 _))
  ·erw [lF,(show us.map AV.str++ [.str [48+(n+1) % 10]]=(us++ [[48+(n+1) % 10]]).map .str from by erw [bc];rfl)]
   rw[aB]at e;exact e
end
end
mutual
def pV:∀l:List Nat,(l.map λc=> [c]).flatten=l
 | []=>rfl
 | c::r=>by show [c]++(r.map λc=> [c]).flatten=_;erw [pV r];rfl
def m8{n:Nat}(h:n<=1000):(bR n).length<=4:=by
 erw [sY h]
 cases n using bM with
 | zero=>exact ab rfl
 | succ n=>erw [fS];exact wx _ _
end
section
mutual
variable{l k:Nat}{i:Int}{v:AV}{α:Type}{ls:Ls}
variable{d:Nat}{H au aP H':Hp}
def Ur{n:Nat}(h:n<=1000):∃H',aQ (d+1) H 46 [.int n, .int 10] (.str (bR n),H')/\Keep all H H':=by
 erw [sY h]
 cases n using bM with
 | zero=>exact bI H (bz (F:=Q9) rfl rfl rfl (mw (cT rfl rfl) (fx aA))) Keep.refl
 | succ n=>
  refine y5 (yv (d:=d) (H:=H) (l4:=none) (l5:=none) 4 (n+1) [] none (fC h (ab rfl)) (ab rfl)) λn' x3' e=>?_;have l:=wx 4 (n+1);refine bI _ (bz (F:=Q9) rfl rfl rfl (ij (cT rfl (dF (mQ.mpr (AK n)))) (cL (fK aq (aN (aY _))) rfl (aC e (fx (CW (vs:=((L5 4 (n+1)).map λc=> [c]).map .str) aA (ah rfl) ?_ ?_)))))) Keep.app
  ·unfold aF;rewrite [fN];erw [aV];rfl
  ·erw [<- jk,(uS (by erw [fS,aL];exact(cA ai cY [(ai,aI 4)] aS l)) (by erw [<- jk,pV,fS];exact(cA ai cY [(ai,aI 4)] aS l))),<- jk,pV];rfl
def Rx(h:i.natAbs<=1000):∃H',aQ (d+2) H 47 [.int i, .int 10] (.str (dH i),H')/\Keep all H H':=by
 refine aM (Ur (d:=d) (H:=H) h) λH' e K=>?_;have l:=m8 h;refine bI H' (bz (F:=SM) rfl rfl rfl (fx ?_)) K
 cases i using iu with
 | ofNat n=>exact bT (fz (cT rfl (dF (jg.mpr (fE n)))) aA) (bj (ak (eI (bW rfl aq) rfl) (bW rfl aq)) e) (by show eV (cG (0+_)) _=_;erw [(aN (by exact(cA (aK (aI 0) ai) cY [(ai,aI 4)] aS l)))];rfl)
 | negSucc n=>exact bT (eX (cT rfl (dT (Int.negSucc_lt_zero n))) aA) (bj (ak (eI (bW rfl aq) rfl) (bW rfl aq)) e) (by show eV (cG (1+_)) _=_;erw [(aN (by exact(cA (aK (aI 1) ai) cY [(ai,aI 4)] aS l)))];rfl)
def iY(h:i.natAbs<=1000):(dH i).length<=5:=by
 cases i using iu with
 | ofNat n=>exact gL (m8 h)
 | negSucc n=>exact dB (m8 h)
def Rw(h:i.natAbs<=1000):∃H',aQ (d+3) H 48 [.int i, .int 10] (.str (dH i),H')/\Keep all H H':=by
 refine aM (Rx (d:=d) (H:=H) h) λH' e K=>?_;exact bI H' (bz (F:=Q8) rfl rfl rfl (ij (gF rfl (iZ (ah rfl) rfl)) (fx (bj (bW rfl (ak (ah rfl) aq)) e)))) K
def d9{x y:List Nat}(h:x.length+y.length<=1000000):nY .add (.str x) (.str y) H=some (.str (x++y),H):=by show eV (cG (x.length+y.length)) _=_;erw [aN h];rfl
def Rv{a b:Int}(hk:Hk H k (.n 17 [(32, .int a),(33, .int b)]))(ha:a.natAbs<=1000)(hb:b.natAbs<=1000):∃H',aQ (d+3) H 48 [.ref k, .int 10] (.str (dH a++ [47]++dH b),H')/\Keep all H H':=by
 refine aM (Rx (d:=d) (H:=H) ha) λau e K=>?_;refine aM (Rx (d:=d) (H:=au) hb) λaP e' K'=>?_;have l:=iY ha;have l':=iY hb;exact bI aP (bz (F:=Q8) rfl rfl rfl (mw (gF rfl (iZ (ah rfl) (bZ hk))) (fx (bT (bT (bj (ak (cC rfl hk rfl rfl) (bW rfl aq)) e) aA (d9 (by show _+1<=_;exact(cA bh cY [(ai,aI 5)] aS l)))) (bj (ak (cC rfl (K.at_ _ _ trivial hk) rfl rfl) (bW rfl aq)) e') (d9 (by erw [ag];show _+1+_<=_;exact(bF (aK bh az) cY [(az,aI 5),(ai,aI 5)] aS l' l))))))) (K.trans K')
def Tl{q:Bool}(h:kx Mine.Internal.P H (.cls 16) v=some q):aQ (d+1) H 28 [v] (.bool q,H):=bz (F:=SS) rfl rfl rfl (fx (iZ (ah rfl) h))
def O9{s:List Nat}(h:kx Mine.Internal.P H (.cls 16) v=some false)(e:aQ (d+3) H 48 [v, .int 10] (.str s,H')):aQ (d+4) H 61 [.int 53,v, .int 10] (.str s,H'):=
 bz (F:=Q6) rfl rfl rfl (mw (uA (mx (bW rfl aq) (Tl h))) (fx (bj (bW rfl (ak (ah rfl) aq)) e)))
def yC{f:α->AV}{g:α->AV}{a:E}{i:Nat}{as:List α}(hl:Hk H l (.list (as.map f)))(hb:∀x∈as,∀(ls:Ls) H,cg i ls.length=true->Re d (ls.set i (some (f x))) H a (g x,H)):∀(m j:Nat) (us:List AV) (ls:Ls),cg i ls.length=true->as.length<=j+m->us.length+as.length<=1000000+j->
  lP d ls (H++ [.list us]) (.cell l j) (.one i) none a H.length (H++ [.list (us++(as.drop j).map g)]):=by
 have nx:∀(us:List AV) j,It.next (H++ [.list us]) (.cell l j)=some (((as.map f)[j]?).map λv=>(v, .cell l (j+1))):=λus j=>by
  show(aF (H++ [.list us]) l).map _=_
  unfold aF
  erw [bD hl]
  rfl
 intro m
 induction m with
 | zero=>
  intro j us ls hi hj hu;have e:as.drop j= []:=ll hj
  erw [e,mU,br]
  exact gq (by erw [nx,(ez (by erw [aL];exact hj))];rfl)
 | succ m ih=>
  intro j us ls hi hj hu;cases ha:as[j]? with
  | none=>
   have hj':=fm.mp ha
   erw [ll hj',mU,br]
   exact gq (by erw [nx,(ez (by erw [aL];exact hj'))];rfl)
  | some x=>
   obtain⟨hlt,hx⟩:=aU.mp ha;have e:=ih (j+1) (us++ [g x]) (ls.set i (some (f x))) (by erw [iM];exact hi) (by exact(gn ai (aK cO bH) [(ai,aK az mc)] aS hj)) (by erw [ag];show _+1+_<=_;exact(gn (aK bh az) (aK cY mc) [(aK ai az,aK cY bH)] aS hu));refine i4 (v:=f x) (it':= .cell l (j+1)) (by erw [nx,ey,ha];rfl) (bB:=ls.set i (some (f x))) (by show jh ls i (f x)=_;unfold jh;erw [hi];rfl) (hb x (bN ha) ls _ hi) aV (aN (by exact(gn ai cY [(aK ai az,aK cY bH),(mc,az)] aS hu hlt))) ?_
   erw [lF,e,aB,List.drop_eq_getElem_cons hlt,hx]
   rfl
def jw{vs:List AV}(h:Hk H l (.list vs)):gC H (.ref l)=some (.cell l 0):=by
 show(aF H l).map _=_;unfold aF
 erw [h]
 rfl
def JQ{f:α->AV}{g:α->AV}{a b:E}{i:Nat}{as:List α}(hi:cg i ls.length=true)(hf:eW ls (.one i)=true)(ha:Re d ls H a (.ref l,H))(hl:Hk H l (.list (as.map f)))(hb:∀x∈as,∀(ls:Ls) H,cg i ls.length=true->Re d (ls.set i (some (f x))) H b (g x,H))(hr:as.length<=1000000):Re d ls H (.comp b (.one i) a false none) (.ref H.length,H++ [.list (as.map g)]):=
 k7 hf ha (jw hl) (yC hl hb as.length 0 [] ls hi (by exact(cA ai (aK (aI 0) ai) [] aS)) (by show 0+_<=_;exact(cA (aK (aI 0) ai) (aK cY (aI 0)) [(ai,cY)] aS hr)))
def JS{c i:Nat}(hi:cg i ls.length=true)(hc:c<1114112):Re d (ls.set i (some (.int (c:Int)))) H (.bi .chr [.v i]) (.str [c],H):=
 eI (ak (ah (lh (cM.mp hi))) aq) (by show eV (cg c 1114112) _=_;erw [cM.mpr hc];rfl)
def Tp{cs:List Nat}(hk:Hk H k (.n 5 [(19, .ref l)]))(hl:Hk H l (.list (cs.map λc:Nat=> .int c)))(hc:∀c∈cs,c<1114112)(hn:cs.length<=1000000):aQ (d+1) H 19 [.ref k] (.str cs,H++ [.list ((cs.map λc=> [c]).map .str)]):=by
 have e:=oV (d:=d) (H:=H) (ps:=cs.map λc=> [c]) (ls:= [some (.ref k),none,none]) (JQ (as:=cs) (f:=λc:Nat=> .int c) (g:=λc=> .str [c]) (i:=1) (a:= .aT (.v 0) 19) rfl rfl (cC rfl hk rfl rfl) hl (λc m ls H hi=>JS hi (hc c m)) hn) (by show(_:Option Cell)=_;erw [aV,iC];rfl) (by erw [aL];exact hn) (by erw [pV];exact hn);rw[pV]at e
 erw [iC]
 exact bz (F:=SX) rfl rfl rfl (fx e)
end
end
mutual
def eq_str{H:Hp}{x y:List Nat}{q:Bool}(h:decide (x=y)=q):iI H .eq (.str x) (.str y)=some q:=congrArg some h
def mE{x y:Nat}(h:x≠y):decide ([x]= [y])=false:=decide_eq_false λe=>h (dC e).1
end
section
mutual
variable{c k:Nat}
variable{d:Nat}{H au aP H':Hp}{v:AV}
def To{q:Bool}(h:kx Mine.Internal.P H .bool v=some q):aQ (d+1) H 21 [v] (.bool q,H):=bz (F:=SV) rfl rfl rfl (fx (iZ (ah rfl) h))
def Ug:aQ (d+1) H 84 [.str [c]] (if c=32 then .str [115,112,97,99,101]else if c=10 then .str [110,101,119,108,105,110,101]else .none,H):=by
 by_cases h1:c=32
 ·subst h1;exact bz (F:=PX) rfl rfl rfl (eQ (mN aA rfl (BA rfl rfl (mw (gO (ah rfl) (ah rfl) rfl) (fx (ah rfl))))))
 ·erw [if_neg h1]
  by_cases h2:c=10
  ·subst h2;exact bz (F:=PX) rfl rfl rfl (eQ (mN aA rfl (fq rfl rfl (ij (gO (ah rfl) (ah rfl) rfl) bb) (BA rfl rfl (mw (gO (ah rfl) (ah rfl) rfl) (fx (ah rfl)))))))
  ·erw [if_neg h2]
   exact bz (F:=PX) rfl rfl rfl (aC (mN aA rfl (fq rfl rfl (ij (gO (ah rfl) (ah rfl) (eq_str (mE (Ne.symm h1)))) bb) (fq rfl rfl (ij (gO (ah rfl) (ah rfl) (eq_str (mE (Ne.symm h2)))) bb) (iH rfl)))) (fx aA))
def oX(hc:c<1114112):BS .chr [.int (c:Int)] H=some (.str [c],H):=by show eV (cg c 1114112) _=_;erw [cM.mpr hc];rfl
def RN(hc:c<1114112):aQ (d+2) H 110 [.int (c:Int)] (.str (g9 c),H):=by
 have e:=Ug (d:=d) (H:=H) (c:=c);unfold g9;by_cases h1:c=32
 ·rw[if_pos h1]at e |-
  exact bz (F:=Io) rfl rfl rfl (cL (bj (ak (eI (bW rfl aq) (oX hc)) aq) e) rfl (fx (bT aA (fz (cT rfl rfl) (ah rfl)) (d9 (ab rfl)))))
 ·rw[if_neg h1]at e |-
  by_cases h2:c=10
  ·rw[if_pos h2]at e |-
   exact bz (F:=Io) rfl rfl rfl (cL (bj (ak (eI (bW rfl aq) (oX hc)) aq) e) rfl (fx (bT aA (fz (cT rfl rfl) (ah rfl)) (d9 (ab rfl)))))
  ·rw[if_neg h2]at e |-
   exact bz (F:=Io) rfl rfl rfl (cL (bj (ak (eI (bW rfl aq) (oX hc)) aq) e) rfl (fx (bT aA (eX (cT rfl rfl) (eI (bW rfl aq) (oX hc))) (d9 (ab rfl)))))
def sv{l0 l3 l4:Option AV}:∀(cs:List Nat) {H:Hp} {us:List (List Nat)} {x2:Option AV},Hk H k (.list (us.map .str))->us.length+2*cs.length<=1000000->
  ∃(H':Hp) (x2':Option AV) (us':List (List Nat)),lO d [l0,some (.ref k),x2,l3,l4] H (.str cs) (.one 2) [(.ite (.or (.j .eq (.v 2) (.lit (.str [34]))) (.j .eq (.v 2) (.lit (.str [92])))) [(.expr (.meth (.v 1) 0 [(.lit (.str [92]))]))] []),(.expr (.meth (.v 1) 0 [(.v 2)]))] (.next,[l0,some (.ref k),x2',l3,l4],H')/\Hk H' k (.list (us'.map .str))/\us'.flatten=us.flatten++cB cs/\us'.length<=us.length+2*cs.length/\Keep (·≠k) H H'
 | [],H,us,x2,h,hu=>(iR H x2 us (iH rfl) h ((br _).symm) (bw _ _) Keep.refl)
 | c::cs,H,us,x2,h,hu=>by
  have hm:us.length+2*cs.length+2<=1000000:=hu;have r1:cG (us.map AV.str).length=true:=aN (by erw [aL];exact(bF ai cY [(aK ai (f6 2 cO),cY)] aS hu));by_cases hc:c=34\/c=92
  ·have g1:(H.set k (.list (us.map .str++ [.str [92]])))[k]? =_:=cP (bx h);have g2:Hk ((H.set k (.list (us.map .str++ [.str [92]]))).set k (.list (us.map .str++ [.str [92]]++ [.str [c]]))) k (.list ((us++ [[92],[c]]).map .str)):=by show(_:Option Cell)=_;erw [cP (bx g1)];simp
   obtain⟨H',x2',us',e,h',f,l,K⟩:=sv cs (x2:=some (.str [c])) g2 (by erw [ag];show _+2+_<=_;exact(bF (aK (aK ai (aI 2)) (f6 2 az)) cY [((aK (aK ai (f6 2 az)) (aI 2)),cY)] aS hm));refine iR H' x2' us' (fq rfl rfl (aC (ff ?_ (ux (ft (ah rfl) h aA h r1) bb)) (ux (ft (ah rfl) g1 (ah rfl) g1 (aN (by erw [ag,aL];show _+1<=_;exact(bF bh cY [((aK (aK ai (f6 2 az)) (aI 2)),cY)] aS hm)))) bb)) e) h' ?_ ?_ (((Keep.set λo=>o rfl).trans (Keep.set λo=>o rfl)).trans K)
   ·cases hc using cW with
    | inl hc=>exact zc (cT rfl (eq_str (by erw [hc];rfl)))
    | inr hc=>exact iP (cT rfl (eq_str (mE (by erw [hc];decide)))) (cT rfl (eq_str (by erw [hc];rfl)))
   ·erw [f];rewrite [cB];erw [if_pos hc];simp
   ·rw[ag]at l;exact aj l (by show _+2+_<=_+2*(cs.length+1);exact(bF (aK (aK ai (aI 2)) (f6 2 az)) (aK ai (f6 2 cO)) [] aS))
  ·have g2:Hk (H.set k (.list (us.map .str++ [.str [c]]))) k (.list ((us++ [[c]]).map .str)):=by show(_:Option Cell)=_;erw [cP (bx h)];simp
   obtain⟨H',x2',us',e,h',f,l,K⟩:=sv cs (x2:=some (.str [c])) g2 (by erw [ag];show _+1+_<=_;exact(bF (aK bh (f6 2 az)) cY [((aK (aK ai (f6 2 az)) (aI 2)),cY)] aS hm));refine iR H' x2' us' (fq rfl rfl (ij (iP (cT rfl (eq_str (mE λq=>hc (.inl q)))) (cT rfl (eq_str (mE λq=>hc (.inr q))))) (ux (ft (ah rfl) h (ah rfl) h r1) bb)) e) h' ?_ ?_ ((Keep.set λo=>o rfl).trans K)
   ·erw [f];rewrite [cB];erw [if_neg hc];simp
   ·rw[ag]at l;exact aj l (by show _+1+_<=_+2*(cs.length+1);exact(bF (aK bh (f6 2 az)) (aK ai (f6 2 cO)) [] aS))
def jR:∀cs:List Nat,(cB cs).length<=2*cs.length
 | []=>ay _
 | c::cs=>by
  have:=jR cs;unfold cB
  split <;> simp only[aJ] <;> (first | lia | omega)
def RL{l:Nat}{cs:List Nat}(hk:Hk H k (.n 5 [(19, .ref l)]))(hl:Hk H l (.list (cs.map λc:Nat=> .int c)))(hc:∀c∈cs,c<1114112)(hn:cs.length<=400000):∃H',aQ (d+2) H 111 [.ref k] (.str ([34]++cB cs++ [34]),H')/\Keep all H H':=by
 have K0:Keep all H (H++ [.list ([[34]].map .str)]):=Keep.app;have e0:=Tp (d:=d) (K0.at_ _ _ trivial hk) (K0.at_ _ _ trivial hl) hc (by exact(cA ai cY [(ai,aI 400000)] aS hn));refine jX (sv (d:=d+1) (k:=H.length) (l0:=some (.ref k)) (l3:=none) (l4:=none) cs (us:= [[34]]) (x2:=none) (H:=(H++ [.list ([[34]].map .str)])++ [.list ((cs.map λc=> [c]).map .str)]) (bD aV) (by show 1+_<=_;exact(cA (aK (aI 1) (f6 2 ai)) cY [(ai,aI 400000),(ai,aI 400000)] aS hn hn))) λau x2 us e1 h1 f1 l1 K1=>?_;have fl:(us++ [[34]]).flatten= [34]++cB cs++ [34]:=by erw [List.flatten_append,f1];rfl
 have le:=jR cs;have g:Hk (au.set H.length (.list (us.map .str++ [.str [34]]))) (H.length) (.list ((us++ [[34]]).map .str)):=by show(_:Option Cell)=_;erw [cP (bx h1),bc];rfl
 have e2:=oV (d:=d+1) (ls:= [some (.ref k),some (.ref H.length),x2,none,none]) (a:= .v 1) (ah rfl) g (by erw [ag];show _+1<=_;have:([[34]]:List (List Nat)).length=1:=rfl;exact(bF bh cY [(ai,(aK (eT (aI 0)) (f6 2 az))),(az,aI 400000),(az,aI 400000)] aS l1 hn hn)) (by erw [fl];simp only[ag,aJ,dX];exact(bF (aK (aK (eT (aI 0)) ai) (eT (aI 0))) cY [(ai,f6 2 az),(az,aI 400000),(az,aI 400000)] aS le hn hn));rw[fl]at e2;have ne:∀{j:Nat} {c:Cell},Hk H j c->j≠H.length:=λh=>aE (bx h);refine⟨_,bz (F:=OU) rfl rfl rfl (cL (fK (gS aq) (aN (ab rfl))) rfl (aC (mN (bj (bW rfl aq) e0) rfl e1) (ux (ft (ah rfl) h1 aA h1 (aN (by erw [aL];have:([[34]]:List (List Nat)).length=1:=rfl;exact(bF ai cY [(ai,(aK (eT (aI 0)) (f6 2 az))),(az,aI 400000),(az,aI 400000)] aS l1 hn hn)))) (fx e2)))),?_,λj c zz h=>?_⟩
 ·erw [iM];exact aj (K0.trans (Keep.app (ok:=all))).len K1.len
 ·exact cX (ne h).symm (K1.at_ _ _ (ne h) (bD (bD h)))
end
end
mutual
abbrev t4:Prop:= ∀{d:Nat} {H:Hp} {k:Nat} {m e:Int},Hk H k (.n 16 [(30, .int m),(31, .int e)])->(m,e)∈m5->∃H',aQ (d+15) H 60 [.int 53, .ref k] (.str (fQ m e),H')/\Keep all H H'
def qf:∀c∈mm,c<1114112:=by decide
end
section
mutual
variable{ls:Ls}
variable{d:Nat}{H au aP H':Hp}{v:AV}{k p q:Nat}{w:Bool}{ps:List (List Nat)}{n:Int}{ws:List AV}
def uM{c:IK}{p:List S}(hv:ls[1]? =some (some v))(h:kx Mine.Internal.P H c v=some false):Rs d ls H (.ite (.h (.v 1) c) p []) (.next,ls,H):=cV (gF rfl (iZ (ah hv) h)) bb
def sZ{p:List S}(hv:ls[1]? =some (some v))(h:kx Mine.Internal.P H .bool v=some false):Rs (d+1) ls H (.ite (.call 21 [.v 1]) p []) (.next,ls,H):=cV (mx (ak (ah hv) aq) (To h)) bb
def Hu{p:List S}(hv:ls[1]? =some (some v))(h:Dl v (.obj 0)=some false):Rs d ls H (.ite (.j .is (.v 1) (.lit (.obj 0))) p []) (.next,ls,H):=cV (gO (ah hv) aA h) bb
def RK(h:∀c,c∈[0,10,8,7,9]->kx Mine.Internal.P H (.cls c) v=some false):aQ (d+1) H 112 [v] (.none,H):=by
 have s:∀{c:Nat} {p:List S},kx Mine.Internal.P H (.cls c) v=some false->Rs d [some v,none,none] H (.ite (.h (.v 0) (.cls c)) p []) (.next,[some v,none,none],H):=λh=>cV (gF rfl (iZ (ah rfl) h)) bb;exact bz (F:=OT) rfl rfl rfl (aC (s (h 0 (by decide))) (aC (s (h 10 (by decide))) (aC (s (h 8 (by decide))) (aC (s (h 7 (by decide))) (fx (fz (gF rfl (iZ (ah rfl) (h 9 (by decide)))) aA))))))
def FG{s:List Nat}(P:Pr H k p q w ps n ws)(hb:kx Mine.Internal.P H .bool v=some false)(h0:Dl v (.obj 0)=some false)(h:∀c,c∈[1,5,4,0,10,8,7,9]->kx Mine.Internal.P H (.cls c) v=some false)(e:aQ (d+3) H 61 [.int 53,v, .int 10] (.str s,H')):aQ (d+4) H 119 [.ref k,v] (.str s,H'):=
 bz (F:=Al) rfl rfl rfl (aC (sZ rfl hb) (aC (Hu rfl h0) (aC (uM rfl (h 1 (by decide))) (aC (uM rfl (h 5 (by decide))) (aC (uM rfl (h 4 (by decide))) (cL (bj (bW rfl aq) (RK λc m=>h c (List.mem_of_mem_drop (i:=3) m))) rfl (fx (eX (cT rfl rfl) (bj (ak (cC rfl P.hc rfl rfl) (bW rfl (ak (de (ah rfl) P.hc rfl rfl) aq))) e)))))))))
def Ru(R0:t4){m e:Int}(hk:Hk H k (.n 16 [(30, .int m),(31, .int e)]))(g:(m,e)∈m5):∃H',aQ (d+16) H 61 [.int 53, .ref k, .int 10] (.str (fQ m e),H')/\Keep all H H':=by
 refine aM (R0 (d:=d) hk g) λH' e1 K=>?_;exact bI H' (bz (F:=Q6) rfl rfl rfl (ij (uA (mx (bW rfl aq) (Tl (bZ hk)))) (mw (cT rfl rfl) (fx (bj (ak (ah rfl) (ak (ah rfl) aq)) e1))))) K
def FR(R0:t4):lu:=by
 intro d H k p q w ps n ws v x P r g ha;have ls:∀{v:AV},([some (.ref k),some v,none,none,none]:Ls)[1]? =some (some v):=rfl
 cases x using D.casesOn with
 | bool b=>
  cases (r:v=_)
  refine bI H (bz (F:=Al) rfl rfl rfl (mw (mx (bW rfl aq) (To rfl)) (eQ (kL (v:= .str (tx w (.bool b))) ?_)))) Keep.refl
  cases b using aG with
  | true=>exact eX (gF rfl (ah rfl)) aA
  | false=>exact fz (gF rfl (ah rfl)) aA
 | empty=>
  cases (r:v=_)
  exact bI H (bz (F:=Al) rfl rfl rfl (aC (sZ rfl rfl) (mw (cT rfl rfl) (fx aA)))) Keep.refl
 | sym s=>
  refine dY r λj m e zz h=>?_;subst e;exact bI H (bz (F:=Al) rfl rfl rfl (aC (sZ rfl (bZ h)) (aC (Hu rfl rfl) (mw (gF rfl (iZ (ah rfl) (bZ h))) (fx (cC rfl h rfl rfl)))))) Keep.refl
 | text cs=>
  refine uc r λj l e zz h zy hl=>?_;subst e;have hc:∀c∈cs,c<1114112:=λc m=>qf c (g.2 c m);have hn:=g.1;have pre:∀{v':AV} {H':Hp},Re (d+19) [some (.ref k),some (.ref j),none,none,none] H (.ife (.aT (.v 0) 50) (.call 111 [.v 1]) (.call 19 [.v 1])) (v',H')->aQ (d+20) H 119 [.ref k, .ref j] (v',H'):=λe=>bz (F:=Al) rfl rfl rfl (aC (sZ rfl (bZ h)) (aC (Hu rfl rfl) (aC (uM rfl (bZ h)) (mw (gF rfl (iZ (ah rfl) (bZ h))) (fx e)))))
  cases w using aG with
  | true=>
   refine aM (RL (d:=d+17) h hl hc (by exact(cA ai (aI 400000) [(ai,aI 4)] aS hn))) λH' e K=>?_;exact bI H' (pre (eX (gF rfl (cC rfl P.hc rfl rfl)) (bj (bW rfl aq) e))) K
  | false=>exact bI _ (pre (fz (gF rfl (cC rfl P.hc rfl rfl)) (bj (bW rfl aq) (Tp (cs:=cs) h hl hc (by exact(cA ai cY [(ai,aI 4)] aS hn)))))) Keep.app
 | char c=>
  refine dt r λj e zz h=>?_;subst e;have hc:c<1114112:=by
   cases g using cW with
   | inl g=>exact gK g.2 (ab rfl)
   | inr g=>exact qf c g
  have pre:∀{v':AV} {H':Hp},Re (d+19) [some (.ref k),some (.ref j),none,none,none] H (.ife (.aT (.v 0) 50) (.call 110 [(.aT (.v 1) 18)]) (.bi .chr [(.aT (.v 1) 18)])) (v',H')->aQ (d+20) H 119 [.ref k, .ref j] (v',H'):=λe=>bz (F:=Al) rfl rfl rfl (aC (sZ rfl (bZ h)) (aC (Hu rfl rfl) (aC (uM rfl (bZ h)) (aC (uM rfl (bZ h)) (mw (gF rfl (iZ (ah rfl) (bZ h))) (fx e))))));refine bI H (pre ?_) Keep.refl
  cases w using aG with
  | true=>exact eX (gF rfl (cC rfl P.hc rfl rfl)) (bj (ak (cC rfl h rfl rfl) aq) (RN (d:=d+17) hc))
  | false=>exact fz (gF rfl (cC rfl P.hc rfl rfl)) (eI (ak (cC rfl h rfl rfl) aq) (oX hc))
 | int i=>
  cases (r:v=_)
  have g':i.natAbs<=1000:=by have g1:=g.1;have g2:=g.2;exact(pL (eC [_] [] 0 (.ik 0) (.ip (.iv 0) (.ic (aI 1000))) (.hz (.ik (-1000)) (.iv 0) .ho) (by kernel_rfl) g1) (eC [_] [] 0 (.iv 0) (.ic (aI 1000)) (.hz (.ip (.iv 0) (.ik 1)) (.ik 1000) .ho) (by kernel_rfl) g2))
  refine aM (Rw (d:=d+15) (H:=H) g') λH' e K=>?_;exact bI H' (FG (d:=d+16) P rfl rfl (by intro c m;simp only[aR,lX,or_false]at m;rcases m with h | h | h | h | h | h | h | h <;> subst h <;> rfl) (O9 rfl e)) K
 | ratio a b=>
  refine dt r λj e zz h=>?_;subst e;obtain⟨g1,g2,z,g3,g4,g5⟩:=g;have ha:a.natAbs<=1000:=by
   have h1:b*z<=9*9:=by
    by_cases hz:0<=z
    ·exact t9 (by exact(eC [_] [] 0 (.iv 0) (.ik 9) (.hz (.ip (.iv 0) (.ik 1)) (.ik 10) .ho) aS g2)) (by exact(eC [_] [] 0 (.iv 0) (.ik 9) (.hz (.ip (.iv 0) (.ik 1)) (.ik 10) .ho) aS g4)) hz (by exact(eC [] [] 0 (.ik 0) (.ik 9) .ho aS))
    ·exact Int.le_trans (Int.mul_nonpos_of_nonneg_of_nonpos (by exact(eC [_] [] 0 (.ik 0) (.iv 0) (.hz (.ik 2) (.iv 0) .ho) aS g1)) (by exact(eC [_] [] 0 (.iv 0) (.ik 0) (.hz (.ip (.iv 0) (.ik 1)) (.ik 0) .ho) aS (wQ.mp hz)))) (by decide)
   have h2:-(9*10)<=b*z:=by
    by_cases hz:0<=z
    ·exact Int.le_trans (by decide) (Int.mul_nonneg (by exact(eC [_] [] 0 (.ik 0) (.iv 0) (.hz (.ik 2) (.iv 0) .ho) aS g1)) hz)
    ·have:=t9 (a:=b) (b:= -z) (c:=9) (d:=10) (by exact(eC [_] [] 0 (.iv 0) (.ik 9) (.hz (.ip (.iv 0) (.ik 1)) (.ik 10) .ho) aS g2)) (by exact(eC [_] [] 0 (.ig (.iv 0)) (.ik 10) (.hz (.ik (-10)) (.iv 0) .ho) (by kernel_rfl) g3)) (by exact(eC [_] [] 0 (.ik 0) (.ig (.iv 0)) (.hz (.ip (.iv 0) (.ik 1)) (.ik 0) .ho) aS (wQ.mp hz))) (by exact(eC [] [] 0 (.ik 0) (.ik 9) .ho aS));rw[Int.mul_neg]at this;exact(eC [_] [] 0 (.ig (.im 9 (.ik 10))) (.iv 0) (.hz (.ig (.iv 0)) (.im 9 (.ik 10)) .ho) aS this)
   exact(pL (eC [_,_] [] 0 (.ik 0) (.ip (.iv 0) (.ic (aI 1000))) (.hz (.ip (.iv 1) (.ik 1)) (.iv 0) (.hz (.ig (.im 9 (.ik 10))) (.iv 1) .ho)) aS (wV g5) h2) (eC [_,_] [] 0 (.iv 0) (.ic (aI 1000)) (.hz (.iv 0) (.ip (.iv 1) (.ik 1)) (.hz (.iv 1) (.im 9 (.ik 9)) .ho)) aS (wW g5) h1))
  refine aM (Rv (d:=d+15) h ha (by exact(pL (eC [_] [] 0 (.ik 0) (.ip (.iv 0) (.ic (aI 1000))) (.hz (.ik 2) (.iv 0) .ho) aS g1) (eC [_] [] 0 (.iv 0) (.ic (aI 1000)) (.hz (.ip (.iv 0) (.ik 1)) (.ik 10) .ho) aS g2)))) λH' e K=>?_;exact bI H' (FG (d:=d+16) P (bZ h) rfl (by intro c m;erw [bZ h];simp only[aR,lX,or_false]at m;rcases m with h | h | h | h | h | h | h | h <;> subst h <;> rfl) (O9 (bZ h) e)) K
 | real a b=>
  refine dt r λj e zz h=>?_;subst e;refine aM (Ru (d:=d+3) R0 h g) λH' e K=>?_;exact bI H' (FG (d:=d+16) P (bZ h) rfl (by intro c m;erw [bZ h];simp only[aR,lX,or_false]at m;rcases m with h | h | h | h | h | h | h | h <;> subst h <;> rfl) e) K
 | _=>exact nomatch ha
end
end
section
variable(n:Nat)
mutual
/-- -/
noncomputable def sh:AV->AV
 | .ref i=> .ref (i+n)
 | .U vs=> .U (shs vs)
 | .a vs=> .a (shs vs)
 | v=>v
noncomputable def shs:List AV->List AV
 | []=> []
 | v::r=>sh v::shs r
end
mutual
abbrev Jm:Cell->Cell
 | .list vs=> .list (shs n vs)
 | .n c fs=> .n c (fs.map λp=>(p.1,sh n p.2))
 | .dict es=> .dict es
end
end
mutual
abbrev G(H h:Hp):Hp:=H++h.map (Jm H.length)
abbrev jV(n:Nat)(ls:Ls):Ls:=ls.map λo=>o.map (sh n)
end
section
mutual
variable{n:Nat}
def iQ:∀vs:List AV,shs n vs=vs.map (sh n)
 | []=>rfl
 | v::r=>congrArg (sh n v::·) (iQ r)
def fP(vs:List AV):(shs n vs).length=vs.length:=by erw [iQ,aL];rfl
def A4(vs:List AV)(i:Nat):(shs n vs)[i]? =(vs[i]?).map (sh n):=by erw [iQ,ey];rfl
def vK(us vs:List AV):shs n (us++vs)=shs n us++shs n vs:=by erw [iQ,iQ,iQ,bc];rfl
def A6:∀ss:List (List Nat),shs n (ss.map .str)=ss.map .str
 | []=>rfl
 | s::r=>congrArg (AV.str s::·) (A6 r)
end
mutual
/-- -/
theorem GF:∀v:AV,mX (sh n v)=mX v
 | .none=>rfl
 | .bool _=>rfl
 | .int _=>rfl
 | .str _=>rfl
 | .U vs=>congrArg (λx=>x.map PyData.tuple) (toPDs_sh vs)
 | .a _=>rfl
 | .obj _=>rfl
 | .rng _ _ _=>rfl
 | .ref _=>rfl
theorem toPDs_sh:∀vs:List AV,toPDs (shs n vs)=toPDs vs
 | []=>rfl
 | v::r=>by show(match mX (sh n v),toPDs (shs n r)with | some x,some y=>some (x::y) | _,_=>none)=_;erw [GF v,toPDs_sh r];rfl
end
mutual
/-- -/
theorem zj:∀v:AV,(mX v).isSome=true->sh n v=v
 | .none,_=>rfl
 | .bool _,_=>rfl
 | .int _,_=>rfl
 | .str _,_=>rfl
 | .U vs,h=>congrArg AV.U (shs_lit vs (by rw[show mX (.U vs)=(toPDs vs).map PyData.tuple from rfl,Option.isSome_map]at h;exact h))
theorem shs_lit:∀vs:List AV,(toPDs vs).isSome=true->shs n vs=vs
 | [],_=>rfl
 | v::r,h=>by
  rw[show toPDs (v::r)=(match mX v,toPDs r with | some x,some y=>some (x::y) | _,_=>none)from rfl]at h;cases h1:mX v with
  | none=>rw[h1]at h;exact nomatch h
  | some x=>cases h2:toPDs r with
   | none=>rw[h1,h2]at h;exact nomatch h
   | some y=>
    show sh n v::shs n r=_
    erw [(zj v (by erw [h1];rfl)),(shs_lit r (by erw [h2];rfl))];rfl
end
end
section
mutual
variable{i:Nat}
variable{H h h':Hp}{x y z v:AV}{r:AV×Hp}{q:Bool}
def y4:(G H h).length=h.length+H.length:=by unfold G;erw [ag,aL,dq];rfl
def ua(i:Nat):(G H h)[i+H.length]? =(h[i]?).map (Jm H.length):=by unfold G;erw [dg (eF _ _),wN,ey];rfl
def Gh(c:Cell):G H h++ [Jm H.length c]=G H (h++ [c]):=by unfold G;erw [aB,bc];rfl
def J6(i:Nat)(c:Cell):(G H h).set (i+H.length) (Jm H.length c)=G H (h.set i c):=by unfold G;erw [List.set_append_right _ _ (eF _ _),wN,List.map_set];rfl
def Gg{vs:List AV}(e:aF h i=some vs):aF (G H h) (i+H.length)=some (shs H.length vs):=by
 unfold aF at e |-
 erw [ua]
 cases hc:h[i]? with
 | none=>rw[hc]at e;exact nomatch e
 | some c=>cases c using Cell.casesOn with
  | list us=>rw[hc]at e;(replace e:=af e;subst e);rfl
  | _=>rw[hc]at e;exact nomatch e
def fY:aF (G H h) (i+H.length)=(aF h i).map (shs H.length):=by
 unfold aF
 erw [ua]
 cases h[i]? with
 | none=>rfl
 | some c=>induction c using Cell.casesOn <;> rfl
def wj(f:Nat):∀fs:List (Nat×AV),jz f (fs.map λp=>(p.1,sh H.length p.2))=(jz f fs).map (sh H.length)
 | []=>rfl
 | (g,u)::r=>by
  show(match aX g f with | true=>some (sh H.length u) | false=>jz f (r.map _))=(match aX g f with | true=>some u | false=>jz f r).map _
  erw [wj f r]
  cases aX g f <;> rfl
def A8(f:Nat)(v:AV):∀fs:List (Nat×AV),oI f (sh H.length v) (fs.map λp=>(p.1,sh H.length p.2))=(oI f v fs).map λp=>(p.1,sh H.length p.2)
 | []=>rfl
 | (g,u)::r=>by
  show(match aX g f with | true=>(f,sh H.length v)::(r.map _) | false=>(g,sh H.length u)::oI f (sh H.length v) (r.map _))=(match aX g f with | true=>(f,v)::r | false=>(g,u)::oI f v r).map _
  erw [A8 f v r]
  cases aX g f <;> rfl
end
end
section
variable{β:Type}{r:β}{C:Prop}{x:AV}{args:List AV}
end
section
mutual
variable{b:Bool}
variable{α α' β β' γ γ':Type}{r:β}{r':β'}{H h h':Hp}{n:Nat}{x:AV}{args:List AV}
def bG{x:Option (α×Hp)}{f:α×Hp->Option β}{x':Option (α'×Hp)}{f':α'×Hp->Option β'}{s:α->α'}(e:x.bind f=some r)(h1:∀{a h1},x=some (a,h1)->x'=some (s a,G H h1))(h2:∀a h1,f (a,h1)=some r->f' (s a,G H h1)=some r'):x'.bind f'=some r':=
 cE e λa b q e=>by erw [h1 q];exact h2 a b e
def RU{x:Option (α×γ×Hp)}{f:α×γ×Hp->Option β}{x':Option (α'×γ'×Hp)}{f':α'×γ'×Hp->Option β'}{s:α->α'}{t:γ->γ'}(e:x.bind f=some r)(h1:∀{a c h1},x=some (a,c,h1)->x'=some (s a,t c,G H h1))(h2:∀a c h1,f (a,c,h1)=some r->f' (s a,t c,G H h1)=some r'):x'.bind f'=some r':=
 cE e λa b q e=>by erw [h1 (c:=b.1) (h1:=b.2) q];exact h2 a b.1 b.2 e
def mG{x:Option (α×Hp)}{f:α×Hp->β}{x':Option (α'×Hp)}{f':α'×Hp->β'}{s:α->α'}(e:x.map f=some r)(h1:∀{a h1},x=some (a,h1)->x'=some (s a,G H h1))(h2:∀a h1,f (a,h1)=r->f' (s a,G H h1)=r'):x'.map f'=some r':=
 kr e λa q e=>by erw [h1 (a:=a.1) (h1:=a.2) q];exact congrArg some (h2 a.1 a.2 e)
def oG{x:Option α}{f:α->Option β}{x':Option α'}{f':α'->Option β'}{s:α->α'}(e:x.bind f=some r)(h1:x'=x.map s)(h2:∀a,f a=some r->f' (s a)=some r'):x'.bind f'=some r':=
 cK e λa q e=>by erw [h1,q];exact h2 a e
def eG{x x':Option α}{f:α->Option β}{f':α->Option β'}(e:x.bind f=some r)(h1:x'=x)(h2:∀a,f a=some r->f' a=some r'):x'.bind f'=some r':=
 cK e λa q e=>by erw [h1,q];exact h2 a e
def oM{x:Option α}{f:α->β}{x':Option α'}{f':α'->β'}{s:α->α'}(e:x.map f=some r)(h1:x'=x.map s)(h2:∀a,f a=r->f' (s a)=r'):x'.map f'=some r':=
 kr e λa q e=>by erw [h1,q];exact congrArg some (h2 a e)
def eM{x x':Option α}{f:α->β}{f':α->β'}(e:x.map f=some r)(h1:x'=x)(h2:∀a,f a=r->f' a=r'):x'.map f'=some r':=
 kr e λa q e=>by erw [h1,q];exact congrArg some (h2 a e)
def rW{b':Bool}{x:Option β}{x':Option β'}(e:eV b x=some r)(q:b'=b)(k:x=some r->x'=some r'):eV b' x'=some r':=kE e λt e=>by erw [q,t];exact k e
def rC{x y:Option β}{x' y':Option β'}(e:cond b x y=some r)(k:x=some r->x'=some r')(k':y=some r->y'=some r'):cond b x' y'=some r':=by
 cases b using aG with | true=>exact k e | false=>exact k' e
def FU{k:Option β}{k':Option β'}(e:FV args k=some r)(g:k=some r->k'=some r'):FV (shs n args) k'=some r':=by
 cases args using aw with | nil=>exact g e | cons zz zy=>exact dA e
def wD{k:AV->Option β}{k':AV->Option β'}(e:qi args k=some r)(g:∀x,k x=some r->k' (sh n x)=some r'):qi (shs n args) k'=some r':=by
 cases args using aw with | nil=>exact dA e | cons x l=>exact FU e (g x)
def IT{k:AV->AV->Option β}{k':AV->AV->Option β'}(e:J1 args k=some r)(g:∀x y,k x y=some r->k' (sh n x) (sh n y)=some r'):J1 (shs n args) k'=some r':=by
 cases args using aw with | nil=>exact dA e | cons x l=>exact wD e (g x)
def tr{k:Int->Option β}{k':Int->Option β'}(e:fL x k=some r)(g:∀i,k i=some r->k' i=some r'):fL (sh n x) k'=some r':=by
 cases x using AV.casesOn with | int i=>exact g i e | _=>exact dA e
def vA{k:List Nat->Option β}{k':List Nat->Option β'}(e:iq x k=some r)(g:∀i,k i=some r->k' i=some r'):iq (sh n x) k'=some r':=by
 cases x using AV.casesOn with | str i=>exact g i e | _=>exact dA e
def Pz{k:Bool->Option β}{k':Bool->Option β'}(e:tV x k=some r)(g:∀i,k i=some r->k' i=some r'):tV (sh n x) k'=some r':=by
 cases x using AV.casesOn with | bool i=>exact g i e | _=>exact dA e
def G3{k:Nat->Option β}{k':Nat->Option β'}(e:nC x k=some r)(g:∀i,k i=some r->k' (i+n)=some r'):nC (sh n x) k'=some r':=by
 cases x using AV.casesOn with | ref i=>exact g i e | _=>exact dA e
def Qq{i:Int}{k:Nat->Option β}{k':Nat->Option β'}(e:vj i k=some r)(g:∀i,k i=some r->k' i=some r'):vj i k'=some r':=by
 cases i using iu with | ofNat i=>exact g i e | negSucc zz=>exact dA e
def MX{w:List Nat}{k:Nat->Option β}{k':Nat->Option β'}(e:qi w k=some r)(g:∀i,k i=some r->k' i=some r'):qi w k'=some r':=by
 cases w using aw with
 | nil=>exact dA e
 | cons c t=>cases t using aw with | nil=>exact g c e | cons zz zy=>exact dA e
def iW{a v:α}{a':α'}{s:α->α'}(e:(a,h)=(v,h'))(q:a'=s a):(a',G H h)=(s v,G H h'):=by
 erw [q,(aD e).1,(aD e).2];rfl
def jB{a v:α}{a':α'}{s:α->α'}(e:some (a,h)=some (v,h'))(q:a'=s a):some (a',G H h)=some (s v,G H h'):=congrArg some (iW (af e) q)
def wF{c c':Cell}{v:AV}(e:some (lN h c)=some (v,h'))(q:c'=Jm H.length c):some (lN (G H h) c')=some (sh H.length v,G H h'):=by
 have e:=af e
 erw [q,<- (aD e).1,<- (aD e).2]
 unfold lN
 erw [Gh,y4]
 rfl
end
end
section
mutual
variable{n m:Nat}{β:Type}
variable{H h h':Hp}{x y z v:AV}{q:Bool}{args:List AV}
def tU{k:Int->Option β}:fL (sh n x) k=fL x k:=by induction x using AV.casesOn <;> rfl
def FS{k:List Nat->Option β}:iq (sh n x) k=iq x k:=by induction x using AV.casesOn <;> rfl
def GZ:∀y:AV,D5 (G H h) (sh H.length y)=(D5 h y).map (shs H.length)
 | .ref i=>fY
 | .a _=>rfl
 | .none=>rfl
 | .bool _=>rfl
 | .int _=>rfl
 | .str _=>rfl
 | .U _=>rfl
 | .obj _=>rfl
 | .rng _ _ _=>rfl
def OI{o:O2}(e:nY o x y h=some (v,h')):nY o (sh H.length x) (sh H.length y) (G H h)=some (sh H.length v,G H h'):=by
 cases x using AV.casesOn with
 | int i=>exact tr e λj e=>eM e rfl λa e=>iW e rfl
 | bool b=>exact rW e rfl λe=>Pz e λc e=>jB e rfl
 | str s=>exact rC e (λe=>vA e λt e=>rW e rfl λe=>jB e rfl) λe=>rW e rfl λe=>tr e λj e=>rW e rfl λe=>jB e rfl
 | ref k=>
  exact rW e rfl λe=>oG e fY λus e=>oG e (GZ y) λws e=>rW e (by erw [fP,fP];rfl) λe=>wF e (congrArg Cell.list (vK us ws).symm)
 | _=>exact dA e
def OH:Gj (G H h) (sh H.length x) (sh H.length y)=Gj h x y:=by
 cases x using AV.casesOn with
 | int i=>exact tU
 | str s=>exact FS
 | ref i=>cases y using AV.casesOn with
  | ref j=>
   show(aF (G H h) (i+H.length)).bind (λx=>(aF (G H h) (j+H.length)).bind λy=>cond (aX x.length y.length) (CV ((toPDs x).map .list) ((toPDs y).map .list)) (some false))=_
   erw [fY,fY]
   show _=(aF h i).bind (λx=>(aF h j).bind λy=>cond (aX x.length y.length) (CV ((toPDs x).map .list) ((toPDs y).map .list)) (some false));cases aF h i with
   | none=>rfl
   | some us=>cases aF h j with
    | none=>rfl
    | some ws=>
     show cond (aX (shs H.length us).length (shs H.length ws).length) (CV ((toPDs (shs H.length us)).map .list) ((toPDs (shs H.length ws)).map .list)) (some false)=_
     erw [fP,fP,toPDs_sh,toPDs_sh];rfl
  | _=>rfl
 | U us=>cases y using AV.casesOn with
  | U ws=>show CV ((toPDs (shs H.length us)).map .tuple) ((toPDs (shs H.length ws)).map .tuple)=_;erw [toPDs_sh,toPDs_sh];rfl
  | _=>rfl
 | _=>rfl
def IP(i j n:Nat):aX (i+n) (j+n)=aX i j:=Bool.eq_iff_iff.mpr (by erw [Nat.beq_eq,Nat.beq_eq];exact Nat.add_right_cancel_iff)
def OE:Dl (sh H.length x) (sh H.length y)=Dl x y:=by
 cases y using AV.casesOn with
 | ref j=>cases x using AV.casesOn with
  | ref i=>exact congrArg some (IP i j _)
  | _=>rfl
 | _=>induction x using AV.casesOn <;> rfl
def qv:∀vs:List AV,gY (shs H.length vs)=gY vs
 | []=>rfl
 | .str s::r=>congrArg (λz=>z.map (s::·)) (qv r)
 | .none::_=>rfl
 | .bool _::_=>rfl
 | .int _::_=>rfl
 | .U _::_=>rfl
 | .a _::_=>rfl
 | .obj _::_=>rfl
 | .rng _ _ _::_=>rfl
 | .ref _::_=>rfl
def OF:Oc (sh H.length x) (sh H.length y)=Oc x y:=by
 cases x using AV.casesOn with
 | str s=>cases y using AV.casesOn with
  | U vs=>show(gY (shs H.length vs)).map _=_;erw [qv];rfl
  | _=>rfl
 | _=>rfl
def OD{o:CO}:zM o (sh H.length x) (sh H.length y)=zM o x y:=by
 cases x using AV.casesOn with
 | int i=>exact tU (k:=λj=>Eg o i j)
 | _=>rfl
def Fc{o:CO}:iI (G H h) o (sh H.length x) (sh H.length y)=iI h o x y:=by
 cases o using CO.casesOn with
 | eq=>exact OH
 | ne=>exact congrArg (λz=>z.map (!·)) OH
 | is=>exact OE
 | isnot=>exact congrArg (λz=>z.map (!·)) OE
 | isin=>exact OF
 | notin=>exact congrArg (λz=>z.map (!·)) OF
 | _=>exact OD
def v9{vs:List AV}{i:Int}:rO (shs H.length vs) i=(rO vs i).map (sh H.length):=by
 unfold rO
 erw [fP]
 cases wY i vs.length with
 | none=>rfl
 | some j=>exact A4 vs j
def OG:rN (G H h) (sh H.length x) (sh H.length y)=(rN h x y).map (sh H.length):=by
 show fL (sh H.length y) (λi=>HP (G H h) i (sh H.length x))=_
 erw [tU]
 cases y using AV.casesOn with
 | int i=>
  show HP (G H h) i (sh H.length x)=(HP h i x).map (sh H.length)
  cases x using AV.casesOn with
  | str s=>
   show(wY i s.length).bind (λj=>(s[j]?).map λc=>AV.str [c])=((wY i s.length).bind (λj=>(s[j]?).map λc=>AV.str [c])).map (sh H.length);cases wY i s.length with
   | none=>rfl
   | some j=>show(s[j]?).map _=((s[j]?).map _).map _;cases s[j]? <;> rfl
  | U vs=>exact v9
  | a vs=>exact v9
  | ref k=>
   show(aF (G H h) (k+H.length)).bind (λvs=>rO vs i)=((aF h k).bind λvs=>rO vs i).map (sh H.length)
   erw [fY]
   cases aF h k with
   | none=>rfl
   | some vs=>exact v9
  | _=>rfl
 | _=>rfl
def LS{f:Nat}:vh P (G H h) (sh H.length x) f=(vh P h x f).map (sh H.length):=by
 cases x using AV.casesOn with
 | ref i=>
  show((G H h)[i+H.length]?).bind (FQ P f)=((h[i]?).bind (FQ P f)).map _
  erw [ua]
  cases h[i]? with
  | none=>rfl
  | some c=>cases c using Cell.casesOn with
   | n c fs=>
    show eV (wU P c f) (jz f (fs.map _))=(eV (wU P c f) (jz f fs)).map _
    erw [wj]
    cases wU P c f <;> rfl
   | _=>rfl
 | _=>rfl
def Fa:kS P (G H h) (sh H.length x) m=kS P h x m:=by
 cases x using AV.casesOn with
 | ref i=>
  show((G H h)[i+H.length]?).bind (xK P m)=(h[i]?).bind (xK P m)
  erw [ua]
  cases h[i]? with
  | none=>rfl
  | some c=>cases c using Cell.casesOn with
   | n c fs=>
    show(match jz m (fs.map _)with | none=>(P.clss[c]?).bind λC=>C.meths.lookup m | some zz=>none)=(match jz m fs with | none=>(P.clss[c]?).bind λC=>C.meths.lookup m | some zz=>none)
    erw [wj]
    cases jz m fs <;> rfl
   | _=>rfl
 | _=>rfl
def OC:km (G H h) (sh H.length x) m=km h x m:=by
 cases x using AV.casesOn with
 | ref i=>
  show lH m (G H h)[i+H.length]? =lH m h[i]?
  erw [ua]
  cases h[i]? with
  | none=>rfl
  | some c=>induction c using Cell.casesOn <;> rfl
 | _=>rfl
def rZ:gX (sh n x)=gX x:=by induction x using AV.casesOn <;> rfl
end
end
section
mutual
variable{n:Nat}{vs:List AV}
variable{H h h':Hp}{x y z v:AV}{q:Bool}{args:List AV}{s:List Nat}{m:Nat}
def qg{k:Nat}{o:Option AV}:mK k (o.map (sh n))=mK k o:=by
 cases o using bf with
 | none=>rfl
 | some v=>induction v using AV.casesOn <;> rfl
def L7{i j:Nat}:((shs n vs).take j).drop i=shs n ((vs.take j).drop i):=by erw [iQ,iQ,List.map_drop,List.map_take];rfl
def Ih{lo hi:Option AV}(e:iw x lo hi h=some (v,h')):iw (sh H.length x) (lo.map (sh H.length)) (hi.map (sh H.length)) (G H h)=some (sh H.length v,G H h'):=by
 cases x using AV.casesOn with
 | str s=>exact rW e rfl λe=>eG e qg λi e=>eM e qg λj e=>iW e rfl
 | a vs=>exact rW e (congrArg cG (fP vs)) λe=>eG e qg λi e=>eM e ((congrArg (λk=>mK k _) (fP vs)).trans qg) λj e=>af (wF (congrArg some e) (congrArg Cell.list L7))
 | _=>exact dA e
def Lu:EG (G H h) (sh H.length x)=EG h x:=by
 cases x using AV.casesOn with
 | U vs=>exact congrArg some (fP vs)
 | a vs=>exact congrArg some (fP vs)
 | ref k=>show(aF (G H h) (k+H.length)).map jf=(aF h k).map jf;erw [fY];cases aF h k with | none=>rfl | some vs=>exact congrArg some (fP vs)
 | _=>rfl
def FJ(vs:List AV):lM (shs n vs)=lM vs:=by
 induction vs with
 | nil=>rfl
 | cons a r ih=>cases a using AV.casesOn with
  | bool b=>exact congrArg (λz=>z.map (b::·)) ih
  | _=>rfl
def Q2{b:BI}(hb:(match b with | .list=>false | .tuple=>false | .range=>false | .chr=>false | .ord=>false | .int=>false | .str=>false | _=>true)=true)(e:BS b args h=some (v,h')):BS b (shs H.length args) (G H h)=some (sh H.length v,G H h'):=by
 cases b using BI.casesOn with
 | abs=>exact wD e λx e=>tr e λi e=>jB e rfl
 | len=>exact wD e λx e=>eG e Lu λn e=>rW e rfl λe=>jB e rfl
 | divmod=>exact IT e λx y e=>tr e λi e=>tr e λj e=>rW e rfl λe=>jB e rfl
 | max=>exact IT e λx y e=>tr e λi e=>tr e λj e=>jB e rfl
 | min=>exact IT e λx y e=>tr e λi e=>tr e λj e=>jB e rfl
 | all=>exact wD e λx e=>G3 e λk e=>oG e fY λvs e=>eM e (FJ vs) λbs e=>iW e rfl
 | _=>exact nomatch hb
def xX:j6 s (shs H.length vs)=(j6 s vs).map (sh H.length):=by
 unfold j6
 erw [qv,fP]
 cases gY vs with
 | none=>rfl
 | some xs=>show(match _ with | true=>_ | false=>_)=qZ _ (match _ with | true=>_ | false=>_);cases cG (xs.foldr (λx n=>x.length+s.length+n) 0) && cG vs.length <;> rfl
def LR(e:Bu s args h=some (v,h')):Bu s (shs H.length args) (G H h)=some (sh H.length v,G H h'):=by
 cases args using aw with
 | nil=>exact dA e
 | cons x r=>cases r using aw with
  | nil=>exact vA e λw e=>MX e λc e=>jB e rfl
  | cons y r=>exact vA e λw e=>MX e λc e=>FU e λe=>tr e λi e=>Qq e λz e=>jB e rfl
def LQ(e:ue s m args h=some (v,h')):ue s m (shs H.length args) (G H h)=some (sh H.length v,G H h'):=
 rC e LR λe=>rC e (λe=>wD e λx e=>vA e λw e=>MX e λc e=>eM e rfl λi e=>iW e rfl) λe=>
 rC e (λe=>wD e λx e=>G3 e λk e=>oG e fY λvs e=>oM e xX λu e=>iW e rfl) λe=>
 rC e (λe=>FU e λe=>rW e rfl λe=>eM e rfl λu e=>iW e rfl) λe=>
 rC e (λe=>IT e λx y e=>vA e λw e=>MX e λc e=>vA e λw' e=>rW e rfl λe=>jB e rfl) λe=>
 rC e (λe=>wD e λx e=>vA e λw e=>MX e λc e=>rW e rfl λe=>jB e rfl) λe=>
 rW e rfl λe=>wD e λx e=>vA e λw e=>MX e λc e=>rW e rfl λe=>wF e (congrArg Cell.list (A6 _).symm)
end
end
mutual
abbrev Jk(n:Nat):It->It
 | .vals vs=> .vals (shs n vs)
 | .cell k i=> .cell (k+n) i
 | it=>it
abbrev Jl(n:Nat):Fl->Fl
 | .ret v=> .ret (sh n v)
 | f=>f
end
section
mutual
variable{vs:List AV}{k:Nat}{c:Cell}{t:PT}
variable{H h h':Hp}{x y z v:AV}{q:Bool}{args:List AV}{s:List Nat}{m:Nat}{ls ls':Ls}{n:Nat}
def DX:(shs n vs).dropLast=shs n vs.dropLast:=by erw [iQ,iQ,List.map_dropLast];rfl
def DW:(shs n vs).getLast? =vs.getLast?.map (sh n):=by erw [iQ,List.getLast?_map];rfl
def E0(k:Nat):(G H h)[k+H.length]? =(h[k]?).map (Jm H.length):=ua k
def NB{a:AV}{c':Cell}(e:some (a,h.set k c)=some (v,h'))(q:c'=Jm H.length c):some (sh H.length a,(G H h).set (k+H.length) c')=some (sh H.length v,G H h'):=by
 have e:=aD (af e)
 erw [q,J6,e.1,e.2];rfl
def Ik(hm:aX m 2=false)(e:FA k m args h c=some (v,h')):FA (k+H.length) m (shs H.length args) (G H h) (Jm H.length c)=some (sh H.length v,G H h'):=by
 cases c using Cell.casesOn with
 | list vs=>
  exact rC e (λe=>wD e λx e=>rW e (congrArg cG (fP vs)) λe=>NB (a:= .none) e (congrArg Cell.list (vK vs [x]).symm)) λe=>rW e rfl λe=>FU e λe=>rW e (congrArg cG (fP vs)) λe=>
   oM e DW λx e=>af (NB (congrArg some e) (congrArg Cell.list DX))
 | dict es=>exact kE e λq e=>nomatch hm.symm.trans q
 | n zz zy=>exact dA e
def BE(hm:aX m 2=false)(e:kR x m args h=some (v,h')):kR (sh H.length x) m (shs H.length args) (G H h)=some (sh H.length v,G H h'):=by
 cases x using AV.casesOn with
 | ref k=>exact oG e (E0 k) λc e=>Ik hm e
 | int i=>exact rW e rfl λe=>FU e λe=>jB e rfl
 | str s=>exact LQ e
 | _=>exact dA e
def CP{f:Nat}(e:l6 P h x f v=some h'):l6 P (G H h) (sh H.length x) f (sh H.length v)=some (G H h'):=by
 refine G3 e λk e=>oG e (E0 k) λc e=>?_
 cases c using Cell.casesOn with
 | n c fs=>
  refine rW e (congrArg (λn=>wU P c f && cg n 20) (aL _)) λe=>?_
  erw [<- af e,A8]
  exact congrArg some (J6 k (.n c (oI f v fs)))
 | _=>exact dA e
def Fb{it:It}(e:gC h x=some it):gC (G H h) (sh H.length x)=some (Jk H.length it):=by
 cases x using AV.casesOn with
 | str s=>(replace e:=af e;subst e);rfl
 | U vs=>(replace e:=af e;subst e);rfl
 | a vs=>(replace e:=af e;subst e);rfl
 | rng a b c=>exact kE e λq e=>by(replace e:=af e;subst e);show eV (cy a b c) _=_;erw [q];rfl
 | ref k=>exact kr e λvs h1 e=>by subst e;exact mo (Gg h1)
 | _=>exact dA e
def E9(it:It):(Jk H.length it).next (G H h)=(it.next h).map λo=>o.map λp=>(sh H.length p.1,Jk H.length p.2):=by
 cases it using It.casesOn with
 | str s=>induction s using aw <;> rfl
 | enum i s=>induction s using aw <;> rfl
 | vals vs=>induction vs using aw <;> rfl
 | rng a b n=>induction n using bM <;> rfl
 | cell k i=>
  show(aF (G H h) (k+H.length)).map _=((aF h k).map _).map _
  erw [fY]
  cases aF h k with
  | none=>rfl
  | some vs=>
   show some (((shs H.length vs)[i]?).map _)=some (((vs[i]?).map _).map _)
   erw [A4]
   cases vs[i]? <;> rfl
def GY:(jV n ls).length=ls.length:=aL _
def A7(i:Nat):(jV n ls)[i]? =(ls[i]?).map λo=>o.map (sh n):=ey
def Ak{i:Nat}(e:jh ls i v=some ls'):jh (jV n ls) i (sh n v)=some (jV n ls'):=by
 unfold jh at e |-
 erw [GY]
 cases hb:cg i ls.length with
 | false=>rw[hb]at e;exact dA e
 | true=>
  rw[hb]at e
  (replace e:=af e;subst e)
  show some ((jV n ls).set i (some (sh n v)))=some (jV n (ls.set i (some v)));unfold jV
  erw [List.map_set];rfl
def wq:∀(is:List Nat) {vs:List AV} {ls:Ls},fo ls is vs=some ls'->fo (jV n ls) is (shs n vs)=some (jV n ls')
 | [],[],ls,e=>by(replace e:=af e;subst e);rfl
 | [],_::_,ls,e=>dA e
 | _::_,[],ls,e=>dA e
 | i::is,v::vs,ls,e=>cK e λl h1 e=>bo (Ak h1) (wq is e)
def Fd(e:jd h ls t v=some ls'):jd (G H h) (jV H.length ls) t (sh H.length v)=some (jV H.length ls'):=by
 cases t using PT.casesOn with
 | one i=>exact Ak e
 | many is=>cases v using AV.casesOn with
  | U vs=>exact wq is e
  | ref k=>exact cK e λvs h1 e=>bo (Gg h1) (wq is e)
  | _=>exact dA e
def Ij:eW (jV n ls) t=eW ls t:=by
 unfold eW;congr 1;funext i
 erw [A7]
 cases ls[i]? with
 | none=>rfl
 | some o=>induction o using bf <;> rfl
end
end
mutual
abbrev Qn:BI->Bool
 | .list=>false
 | .tuple=>false
 | .range=>false
 | .chr=>false
 | .ord=>false
 | .int=>false
 | .str=>false
 | _=>true
abbrev Sb:E->Bool
 | .lit v=>(mX v).isSome
 | .bi b _=>Qn b
 | .meth _ m _=> !(aX m 2)
 | .dict0=>false
 | .esc _ _ _ _ _ _=>false
 | .dget _ _ _=>false
 | .h _ _=>false
 | _=>true
abbrev Sa:T->Bool
 | .idx _ _=>false
 | _=>true
abbrev Nu(r:Ev):Ev where
 e:=λd ls H c=>eV (Sb c) (dP P r d ls H c)
 es:=oE r
 t:=mM r
 s:=pz r
 ss:=oD r
 asg:=λd ls H t v=>eV (Sa t) (sF P r d ls H t v)
 asgs:=oF r
 call:=λd H f args=>eV (match P.fns[f]? with | some F=>F.dfl.all λv=>(mX v).isSome | none=>false) (iE P r d H f args)
 for_:=mB r
 comp:=kJ r
abbrev pv:Nat->Ev
 | 0=> .bot
 | n+1=>Nu (pv n)
structure Fr(H:Hp)(D:Nat)(r:Ev):Prop where
 e:∀{d ls h c v h'},r.e d ls h c=some (v,h')->Re (d+D) (jV H.length ls) (G H h) c (sh H.length v,G H h')
 es:∀{d ls h c v h'},r.es d ls h c=some (v,h')->vn (d+D) (jV H.length ls) (G H h) c (shs H.length v,G H h')
 t:∀{d ls h c v h'},r.t d ls h c=some (v,h')->Rt (d+D) (jV H.length ls) (G H h) c (v,G H h')
 s:∀{d ls h c f ls' h'},r.s d ls h c=some (f,ls',h')->Rs (d+D) (jV H.length ls) (G H h) c (Jl H.length f,jV H.length ls',G H h')
 ss:∀{d ls h c f ls' h'},r.ss d ls h c=some (f,ls',h')->gI (d+D) (jV H.length ls) (G H h) c (Jl H.length f,jV H.length ls',G H h')
 asg:∀{d ls h c v ls' h'},r.asg d ls h c v=some (ls',h')->wJ (d+D) (jV H.length ls) (G H h) c (sh H.length v) (jV H.length ls',G H h')
 asgs:∀{d ls h c v ls' h'},r.asgs d ls h c v=some (ls',h')->vo (d+D) (jV H.length ls) (G H h) c (shs H.length v) (jV H.length ls',G H h')
 call:∀{d h f as v h'},r.call d h f as=some (v,h')->aQ (d+D) (G H h) f (shs H.length as) (sh H.length v,G H h')
 for_:∀{d ls h it t b f ls' h'},r.for_ d ls h it t b=some (f,ls',h')->lO (d+D) (jV H.length ls) (G H h) (Jk H.length it) t b (Jl H.length f,jV H.length ls',G H h')
 comp:∀{d ls h it t c x k h'},r.comp d ls h it t c x k=some h'->lP (d+D) (jV H.length ls) (G H h) (Jk H.length it) t c x (k+H.length) (G H h')
end
section
mutual
variable{it:It}{t:PT}{us:List AV}{h1:Hp}{en:Bool}{f:Nat}
variable{H h h' i8:Hp}{x y z v:AV}{q:Bool}{args vs:List AV}{s:List Nat}{m d D:Nat}{ls ls':Ls}{r:Ev}{a b c:E}
def JL(I:Fr H D r){o:Option E}{ov:Option AV}(e:MV (r.e d ls h) h o=some (ov,h')):MV (R.e (d+D) (jV H.length ls) (G H h)) (G H h) o=some (ov.map (sh H.length),G H h'):=by
 cases o using bf with
 | none=>exact jB (s:=qZ (sh H.length)) e rfl
 | some x=>exact mG e I.e λp h1 e=>iW (s:=qZ (sh H.length)) e rfl
end
section
mutual
variable{α α':Type}
variable{β β':Type}{w:β}{w':β'}{q:Bool}
def sG{x:Option α}{x':Option α'}{f:α->Option β}{f':α'->Option β'}{s:α->α'}(e:x.bind f=some w)(h1:∀{a},x=some a->x'=some (s a))(h2:∀a,f a=some w->f' (s a)=some w'):x'.bind f'=some w':=
 cK e λa q e=>by erw [h1 q];exact h2 a e
def sM{x:Option α}{x':Option α'}{f:α->β}{f':α'->β'}{s:α->α'}(e:x.map f=some w)(h1:∀{a},x=some a->x'=some (s a))(h2:∀a,f a=w->f' (s a)=w'):x'.map f'=some w':=
 kr e λa q e=>by erw [h1 q];exact congrArg some (h2 a e)
end
end
mutual
def LH{i:Nat}(e:(match ls[i]? with | some (some v)=>some (v,h) | _=>none)=some (v,h')):(match (jV H.length ls)[i]? with | some (some v)=>some (v,G H h) | _=>none)=some (sh H.length v,G H h'):=by
 erw [A7]
 generalize ls[i]? =o at e |-
 cases o using bf with
 | none=>exact dA e
 | some o=>cases o using bf with
  | none=>exact dA e
  | some u=>exact jB e rfl
def LI(I:Fr H D r){c:Nat}(e:((P.clss[c]?).bind λC=>(r.call d (h1++ [.n c []]) C.init (.ref h1.length::us)).bind fun(x,H')=>eV (mF x) (some (AV.ref h1.length,H')))=some (v,h')):
  ((P.clss[c]?).bind λC=>(R.call (d+D) (G H h1++ [.n c []]) C.init (.ref (G H h1).length::shs H.length us)).bind fun(x,H')=>eV (mF x) (some (AV.ref (G H h1).length,H')))=some (sh H.length v,G H h'):=by
 refine eG e rfl λC e=>bG (s:=sh H.length) e (fun{a h2} hx=>?_) λx h2 e=>rW e ?_ λe=>jB e (congrArg AV.ref y4)
 ·have e':=I.call hx;rw[<- Gh]at e'
  erw [y4]
  exact e'
 ·induction x using AV.casesOn <;> rfl
def HY(I:Fr H D r){m:Nat}{as:List E}(ok:(!(aX m 2))=true)(e:(match kS P h1 x m with | some f=>(r.es d ls h1 as).bind fun(vs,H)=>r.call d H f (x::vs) | none=>eV (km h1 x m) ((r.es d ls h1 as).bind fun(vs,H)=>kR x m vs H))=some (v,h')):
  (match kS P (G H h1) (sh H.length x) m with | some f=>(R.es (d+D) (jV H.length ls) (G H h1) as).bind fun(vs,H')=>R.call (d+D) H' f (sh H.length x::vs) | none=>eV (km (G H h1) (sh H.length x) m) ((R.es (d+D) (jV H.length ls) (G H h1) as).bind fun(vs,H')=>kR (sh H.length x) m vs H'))=some (sh H.length v,G H h'):=by
 erw [Fa]
 generalize kS P h1 x m=o at e |-
 cases o using bf with
 | some f=>exact bG e I.es λus h2 e=>I.call e
 | none=>exact rW e OC λe=>bG e I.es λus h2 e=>BE (by cases hq:aX m 2 with | false=>rfl | true=>rw[hq]at ok;exact ly ok) e
def OB{u:AV}(e:sH en h u=some it):sH en (G H h) (sh H.length u)=some (Jk H.length it):=by
 cases en using aG with
 | false=>exact Fb e
 | true=>cases u using AV.casesOn with
  | str s=>exact af e ▸rfl
  | _=>exact dA e
def Ou(I:Fr H D r){x src:E}{c:Option E}(e:(match eW ls t with | false=>none | true=>(r.e d ls h src).bind fun(J9,H)=>(sH en H J9).bind λit=>(r.comp d ls (H++ [.list []]) it t c x H.length).map λH'=>(AV.ref H.length,H'))=some (v,h')):
  (match eW (jV H.length ls) t with | false=>none | true=>(R.e (d+D) (jV H.length ls) (G H h) src).bind fun(J9,H')=>(sH en H' J9).bind λit=>(R.comp (d+D) (jV H.length ls) (H'++ [.list []]) it t c x H'.length).map λH''=>(AV.ref H'.length,H''))=some (sh H.length v,G H h'):=by
 erw [Ij]
 generalize eW ls t=q at e |-
 cases q using aG with
 | false=>exact dA e
 | true=>
  refine bG e I.e λu h1 e=>sG e OB λit e=>sM (s:=G H) e (fun{h2} e=>?_) λh2 e=>iW e (congrArg AV.ref y4);have g:=I.comp e;rw[<- Gh]at g
  erw [y4]
  exact g
def QY(I:Fr H D r)(e:eV (Sb c) (dP P r d ls h c)=some (v,h')):Re (d+D) (jV H.length ls) (G H h) c (sh H.length v,G H h'):=by
 refine kE e λok e=>o9.trans ?_
 cases c using E.casesOn with
 | fail=>exact dA e
 | lit u=>exact jB e (zj u ok).symm
 | v i=>exact LH (ls:=ls) (h:=h) (i:=i) e
 | list es=>exact bG e I.es λus h1 e=>rW e (congrArg cG (fP us)) λe=>wF e rfl
 | U es=>exact bG e I.es λus h1 e=>rW e (congrArg cG (fP us)) λe=>jB e rfl
 | dict0=>exact ly ok
 | o o a b=>exact bG e I.e λx h1 e=>bG e I.e λy h2 e=>OI e
 | neg a=>exact bG e I.e λx h1 e=>tr e λi e=>jB e rfl
 | not a=>exact bG e I.e λx h1 e=>eM e rZ λw e=>iW e rfl
 | j o a b=>exact bG e I.e λx h1 e=>bG e I.e λy h2 e=>eM e Fc λw e=>iW e rfl
 | chain a o b o' c=>
  exact bG e I.e λx h1 e=>bG e I.e λy h2 e=>eG e Fc λw e=>by
   cases w using aG with
   | false=>exact jB e rfl
   | true=>exact bG e I.e λz h3 e=>eM e Fc λu e=>iW e rfl
 | and a b=>
  exact bG e I.e λx h1 e=>eG e rZ λw e=>by
   cases w using aG with
   | false=>exact jB e rfl
   | true=>exact I.e e
 | or a b=>
  exact bG e I.e λx h1 e=>eG e rZ λw e=>by
   cases w using aG with
   | false=>exact I.e e
   | true=>exact jB e rfl
 | ife c a b=>
  exact bG (s:=id) e I.t λw h1 e=>by
   cases w using aG with
   | false=>exact I.e e
   | true=>exact I.e e
 | aT a f=>exact bG e I.e λx h1 e=>oM e LS λw e=>iW e rfl
 | idx a b=>exact bG e I.e λx h1 e=>bG e I.e λy h2 e=>oM e OG λw e=>iW e rfl
 | slice a lo hi=>exact bG e I.e λx h1 e=>bG e (JL I) λl h2 e=>bG e (JL I) λu h3 e=>Ih e
 | call f as=>exact bG e I.es λus h1 e=>I.call e
 | new c as=>exact bG e I.es λus h1 e=>LI I e
 | bi b as=>exact bG e I.es λus h1 e=>Q2 (by induction b using BI.casesOn <;> first | rfl | exact ok) e
 | h a k=>exact ly ok
 | meth a m as=>exact bG e I.e λx h1 e=>HY I ok e
 | esc p x y1 z1 y2 z2=>exact ly ok
 | joinrev a b=>exact bG e I.e λx h1 e=>bG e I.e λy h2 e=>vA e λs e=>G3 e λk e=>oG e fY λus e=>oM e ((congrArg (j6 s) (by erw [iQ,iQ,jk];rfl)).trans xX) λw e=>iW e rfl
 | dget t a b=>exact ly ok
 | comp x t src en c=>exact Ou I e
def Ot(I:Fr H D r){c:List E}(e:oE r d ls h c=some (vs,h')):vn (d+D) (jV H.length ls) (G H h) c (shs H.length vs,G H h'):=by
 refine MO.trans ?_
 cases c using aw with
 | nil=>exact jB e rfl
 | cons a as=>exact bG e I.e λx h1 e=>mG e I.es λus h2 e=>iW e rfl
def QW(I:Fr H D r)(e:mM r d ls h c=some (q,h')):Rt (d+D) (jV H.length ls) (G H h) c (q,G H h'):=by
 refine MM.trans ?_
 cases c using E.casesOn with
 | not a=>exact mG (s:=id) e I.t λw h1 e=>iW (s:=id) e rfl
 | and a b=>
  exact bG (s:=id) e I.t λw h1 e=>by
   cases w using aG with
   | false=>exact jB (s:=id) e rfl
   | true=>exact I.t e
 | or a b=>
  exact bG (s:=id) e I.t λw h1 e=>by
   cases w using aG with
   | false=>exact I.t e
   | true=>exact jB (s:=id) e rfl
 | ife c a b=>
  exact bG (s:=id) e I.t λw h1 e=>by
   cases w using aG with
   | false=>exact I.t e
   | true=>exact I.t e
 | _=>exact bG e I.e λx h1 e=>eM e rZ λw e=>iW (s:=id) e rfl
def LL(I:Fr H D r){t:T}(e:eV (Sa t) (sF P r d ls h t v)=some (ls',h')):wJ (d+D) (jV H.length ls) (G H h) t (sh H.length v) (jV H.length ls',G H h'):=by
 refine kE e λok e=>yS.trans ?_
 cases t using T.casesOn with
 | v i=>exact sM e Ak λl e=>iW e rfl
 | aT a f=>exact bG e I.e λx h1 e=>sM e CP λu e=>iW e rfl
 | idx a b=>exact ly ok
 | U ts=>cases v using AV.casesOn with
  | U us=>exact I.asgs e
  | _=>exact dA e
def H8(I:Fr H D r){ts:List T}(e:oF r d ls h ts us=some (ls',h')):vo (d+D) (jV H.length ls) (G H h) ts (shs H.length us) (jV H.length ls',G H h'):=by
 refine AI.trans ?_
 induction ts using aw <;> induction us using aw
 ·exact jB e rfl
 ·exact dA e
 ·exact dA e
 ·exact bG e I.asg λl h1 e=>I.asgs e
def CL{f HX:Fl}{f':Fl}(e:(HX,ls,h)=(f,ls',h'))(q:f'=Jl H.length HX):(f',jV H.length ls,G H h)=(Jl H.length f,jV H.length ls',G H h'):=by
 have e1:=aD e;have e2:=aD e1.2
 erw [q,e1.1,e2.1,e2.2];rfl
def QX(I:Fr H D r){c:S}{f:Fl}(e:pz r d ls h c=some (f,ls',h')):Rs (d+D) (jV H.length ls) (G H h) c (Jl H.length f,jV H.length ls',G H h'):=by
 refine Da.trans ?_
 cases c using S.casesOn with
 | fail=>exact dA e
 | expr a=>exact mG e I.e λp h1 e=>CL e rfl
 | ret a=>exact mG e I.e λp h1 e=>CL e rfl
 | retn=>exact congrArg some (CL (af e) rfl)
 | aS t a=>exact bG e I.e λx h1 e=>mG e I.asg λp h2 e=>CL e rfl
 | ite c a b=>
  exact bG (s:=id) e I.t λw h1 e=>by
   cases w using aG with
   | false=>exact I.ss e
   | true=>exact I.ss e
 | «while» c b=>
  refine bG (s:=id) e I.t λw h1 e=>?_
  cases w using aG with
  | false=>exact congrArg some (CL (af e) rfl)
  | true=>
   refine RU e I.ss λf1 l h2 e=>?_
   cases f1 using Fl.casesOn with
   | ret u=>exact congrArg some (CL (af e) rfl)
   | next=>exact I.s e
   | cont=>exact I.s e
 | «for» t a b=>
  refine bG e I.e λx h1 e=>?_;have e':(match gC h1 x with | some it=>r.for_ d ls h1 it t b | none=>none)=some (f,ls',h'):=e;show(match gC (G H h1) (sh H.length x)with | some it=>R.for_ (d+D) (jV H.length ls) (G H h1) it t b | none=>none)=_;cases hi:gC h1 x with
  | none=>rw[hi]at e';exact dA e'
  | some it=>
   rw[hi]at e'
   erw [Fb hi]
   exact I.for_ e'
 | pass=>exact congrArg some (CL (af e) rfl)
 | cont=>exact congrArg some (CL (af e) rfl)
 | try_ b=>exact I.ss e
def Os(I:Fr H D r){f:Fl}{c:List S}(e:oD r d ls h c=some (f,ls',h')):gI (d+D) (jV H.length ls) (G H h) c (Jl H.length f,jV H.length ls',G H h'):=by
 refine Gd.trans ?_
 cases c using aw with
 | nil=>exact congrArg some (CL (af e) rfl)
 | cons s ss=>
  refine RU e I.s λf1 l h1 e=>?_
  cases f1 using Fl.casesOn with
  | next=>exact I.ss e
  | cont=>exact congrArg some (CL (af e) rfl)
  | ret u=>exact congrArg some (CL (af e) rfl)
def LJ(I:Fr H D r){f:Fl}{b:List S}(e:mB r d ls h it t b=some (f,ls',h')):lO (d+D) (jV H.length ls) (G H h) (Jk H.length it) t b (Jl H.length f,jV H.length ls',G H h'):=by
 refine BZ.trans (oG e (E9 it) λo e=>?_)
 cases o using bf with
 | none=>exact congrArg some (CL (af e) rfl)
 | some p=>
  exact sG e Fd λl e=>RU e I.ss λf1 l2 h1 e=>by
   cases f1 using Fl.casesOn with
   | ret u=>exact congrArg some (CL (af e) rfl)
   | next=>exact I.for_ e
   | cont=>exact I.for_ e
def HZ(I:Fr H D r){co:Option E}{x:E}{k:Nat}(e:kJ r d ls h it t co x k=some h'):lP (d+D) (jV H.length ls) (G H h) (Jk H.length it) t co x (k+H.length) (G H h'):=by
 refine t6.trans (oG e (E9 it) λo e=>?_)
 cases o using bf with
 | none=>exact congrArg (λz=>some (G H z)) (af e)
 | some p=>
  refine sG e Fd λl e=>(bG (s:=id) e (fun{a h1} e=>?_) λw h1 e=>by
   cases w using aG with
   | false=>exact I.comp e
   | true=>exact bG e I.e λy h2 e=>bG e (BE (x:= .ref k) (args:= [y]) rfl) λz h3 e=>I.comp e)
  cases co using bf with
  | none=>exact jB (s:=id) e rfl
  | some c=>exact I.t e
def H0(I:Fr H D r)(e:eV (match P.fns[f]? with | some F=>F.dfl.all λv=>(mX v).isSome | none=>false) (iE P r d h f args)=some (v,h')):aQ (d+D) (G H h) f (shs H.length args) (sh H.length v,G H h'):=by
 refine kE e λok e=>?_
 cases d using bM with
 | zero=>exact dA e
 | succ d=>
  have e':(match P.fns[f]? with
   | some F=>
    match (args++F.dfl.drop (F.dfl.length-(F.np-args.length))).length==F.np with
    | true=>(r.ss d ((args++F.dfl.drop (F.dfl.length-(F.np-args.length))).map some++cD (F.nl-F.np) none) h F.body).bind fun(fl,zz,H)=>match fl with
     | .ret v=>some (v,H)
     | .next=>some (.none,H)
     | .cont=>none
    | false=>none
   | none=>none)=some (v,h'):=(by
    show _=_
    erw [<- e]
    show _=(match (Nat.succ d),P.fns[f]? with | d+1,some F=>_ | _,_=>none)
    cases P.fns[f]? <;> rfl)
  cases hF:P.fns[f]? with
  | none=>rw[hF]at e';exact dA e'
  | some F=>
   rw[hF]at e' ok;have e2:(match (args++F.dfl.drop (F.dfl.length-(F.np-args.length))).length==F.np with
    | true=>(r.ss d ((args++F.dfl.drop (F.dfl.length-(F.np-args.length))).map some++cD (F.nl-F.np) none) h F.body).bind fun(fl,zz,H)=>match fl with
     | .ret v=>some (v,H)
     | .next=>some (.none,H)
     | .cont=>none
    | false=>none)=some (v,h'):=e'
   have hd:shs H.length args++F.dfl.drop (F.dfl.length-(F.np-(shs H.length args).length))=shs H.length (args++F.dfl.drop (F.dfl.length-(F.np-args.length))):=by
    erw [vK,fP]
    congr 1
    erw [iQ]
    refine(List.map_id' _).symm.trans (List.map_congr_left λu hu=>(zj u (aT.mp ok u (List.mem_of_mem_drop hu))).symm)
   cases hl:(args++F.dfl.drop (F.dfl.length-(F.np-args.length))).length==F.np with
   | false=>rw[hl]at e2;exact dA e2
   | true=>
    rw[hl]at e2
    erw [Nat.succ_add]
    refine(Az hF hd (by erw [fP];exact hl)).trans (cE e2 λfl p hb e=>?_);have hb':=I.ss hb;have lo:jV H.length ((args++F.dfl.drop (F.dfl.length-(F.np-args.length))).map some++cD (F.nl-F.np) none)=(shs H.length (args++F.dfl.drop (F.dfl.length-(F.np-args.length)))).map some++cD (F.nl-F.np) none:=by
     unfold jV
     erw [bc,iC,iQ,iC,List.map_replicate]
     rfl
    rw[lo]at hb';refine bo hb' ?_
    cases fl using Fl.casesOn with
    | ret u=>cases e;rfl
    | next=>cases e;rfl
    | cont=>exact dA e
def LK:Fr H D Ev.bot:=⟨λe=>dA e,λe=>dA e,λe=>dA e,λe=>dA e,λe=>dA e,λe=>dA e,λe=>dA e,λe=>dA e,λe=>dA e,λe=>dA e⟩
def JJ:∀n,Fr H D (pv n)
 | 0=>LK
 | n+1=>have I:=JJ n;⟨QY I,Ot I,QW I,QX I,Os I,LL I,H8 I,H0 I,LJ I,HZ I⟩
def FM{n:Nat}(e:(pv n).call d h f args=some (v,h')):aQ (d+D) (G H h) f (shs H.length args) (sh H.length v,G H h'):=(JJ n).call e
end
end
mutual
abbrev qS(s:List Nat):AV->Bool
 | .str t=>decide (t=s)
 | _=>false
abbrev qJ(a:Int):AV->Bool
 | .int i=>decide (i=a)
 | _=>false
abbrev q2(p q:AV->Bool):List AV->Bool
 | [x,y]=>p x && q y
 | _=>false
abbrev qT(p q:AV->Bool):AV->Bool
 | .U l=>q2 p q l
 | _=>false
def uI{s:List Nat}{v:AV}(h:qS s v=true):v= .str s:=by
 cases v using AV.casesOn with | str t=>erw [of_decide_eq_true h];rfl | _=>exact ly h
def Bc{a:Int}{v:AV}(h:qJ a v=true):v= .int a:=by
 cases v using AV.casesOn with | int t=>erw [of_decide_eq_true h];rfl | _=>exact ly h
def NH{p q:AV->Bool}{l:List AV}(h:q2 p q l=true):∃x y,l= [x,y]/\p x=true/\q y=true:=by
 rcases l with _ | ⟨x,_ | ⟨y,_ | ⟨z,l⟩⟩⟩
 ·exact ly h
 ·exact ly h
 ·exact kX x y rfl (ae.mp h)
 ·exact ly h
def Jo{p q:AV->Bool}{v:AV}(h:qT p q v=true):∃x y,v= .U [x,y]/\p x=true/\q y=true:=by
 cases v using AV.casesOn with
 | U t=>exact(NH h).elim λx h=>h.elim λy h=>(kX x y (congrArg AV.U h.1) h.2)
 | _=>exact ly h
abbrev KR(a b:Int):AV->Bool:=qT (qJ a) (qJ b)
abbrev R8(s:List Nat)(b:Int):AV->Bool:=qT (qS s) (qJ b)
def KQ{a b:Int}{v:AV}(h:KR a b v=true):v= .U [.int a, .int b]:=
 (Jo h).elim λx h=>h.elim λy h=>by erw [h.1,Bc h.2.1,Bc h.2.2];rfl
def KP{s:List Nat}{b:Int}{v:AV}(h:R8 s b v=true):v= .U [.str s, .int b]:=
 (Jo h).elim λx h=>h.elim λy h=>by erw [h.1,uI h.2.1,Bc h.2.2];rfl
abbrev yG(d:Nat)(h:Hp)(f:Nat)(args:List AV)(p:AV->Bool):Bool:=match (pv 400).call d h f args with
 | some (v,_)=>p v
 | none=>false
end
section
mutual
variable{H h:Hp}{d D f:Nat}{args:List AV}{p:AV->Bool}
def EY(e:yG d h f args p=true):∃v h',p v=true/\aQ (d+D) (G H h) f (shs H.length args) (sh H.length v,G H h'):=by
 unfold yG at e;cases h1:(pv 400).call d h f args with
 | none=>rw[h1]at e;exact nomatch e
 | some r=>rw[h1]at e;exact kX r.1 r.2 e (FM h1)
def lK(e:yG d [] f args p=true)(ha:(toPDs args).isSome=true):∃v H',p v=true/\aQ (d+D) H f args (sh H.length v,H')/\Keep all H H':=by
 refine gz (EY (H:=H) (D:=D) e) λv h' hp e=>?_;rw[shs_lit args ha]at e;have:G H []=H:=br H;rw[this]at e;exact i7 v _ hp e Keep.app
end
end
mutual
abbrev rl(m e:Int):List Cell:= [.n 16 [(30, .int m),(31, .int e)]]
def QV:yG 12 (rl 1 (-1)) 57 [.int 53, .ref 0] (KR 5 (-1))=true:=by decide+kernel
def QU:yG 12 (rl 3 (-1)) 57 [.int 53, .ref 0] (KR 15 (-1))=true:=by decide+kernel
def QT:yG 12 (rl 5 (-2)) 57 [.int 53, .ref 0] (KR 125 (-2))=true:=by decide+kernel
def QS:yG 12 (rl 25 2) 57 [.int 53, .ref 0] (KR 1 2)=true:=by decide+kernel
def QR:yG 12 (rl 1 (-4)) 57 [.int 53, .ref 0] (KR 625 (-4))=true:=by decide+kernel
end
section
mutual
variable{H:Hp}{d k:Nat}
def FF{m m' e a b b':Int}{s t u sg:List Nat}(hk:Hk H k (.n 16 [(30, .int m),(31, .int e)]))(hm:(m.natAbs:Int)=m')(h0:decide (yL (decide (0<m))-yL (decide (m<0))=0)=false)(hs:(yL (decide (0<m))-yL (decide (m<0))<0/\sg= [45])\/(¬ yL (decide (0<m))-yL (decide (m<0))<0/\sg= []))
  (h57:yG 12 (rl m' e) 57 [.int 53, .ref 0] (KR a b)=true)(h46:yG 12 [] 46 [.int a, .int 10] (qS s)=true)(h58:yG 12 [] 58 [.str s, .int b] (R8 t b')=true)(h59:yG 12 [] 59 [.str t, .int b'] (qS u)=true)(hl:sg.length+u.length<=1000000):∃H',aQ (d+15) H 60 [.int 53, .ref k] (.str (sg++u),H')/\Keep all H H':=by
 refine gz (EY (H:=H) (D:=d+2) h57) λv h1 p1 e1=>?_;cases KQ p1
 refine dY (lK (H:=G H h1) (D:=d+2) h46 rfl) λv H2 p2 e2 K2=>?_;cases uI p2
 refine dY (lK (H:=H2) (D:=d+2) h58 rfl) λv H3 p3 e3 K3=>?_;cases KP p3
 refine dY (lK (H:=H3) (D:=d+2) h59 rfl) λv H4 p4 e4 K4=>?_;cases uI p4
 have K1:Keep all H (G H h1):=Keep.app;have K:Keep all H H3:=(K1.trans K2).trans K3;have dd:12+(d+2)=d+14:=by exact dq ..
 rw[dd]at e1 e2 e3 e4;have r1:aQ (d+14) (H++ [.n 16 [(30, .int (m.natAbs:Int)),(31, .int e)]]) 57 [.int 53, .ref H.length] (.U [.int a, .int b],G H h1):=by
  erw [hm]
  have:(0+H.length)=H.length:=ji _
  have e1':aQ (d+14) (G H (rl m' e)) 57 [.int 53, .ref (0+H.length)] (.U [.int a, .int b],G H h1):=e1
  rw[this]at e1'
  exact e1'
 have sg':∀{ls:Ls},ls[1]? =some (some (.ref k))->Re (d+14) ls H3 (.ife (.j .lt (.call 39 [(.v 1)]) (.lit (.int 0))) (.lit (.str [45])) (.lit (.str []))) (.str sg,H3):=λhl=>by
  have c:=Rz (d:=d+12) (K.at_ _ _ trivial hk)
  cases hs using cW with
  | inl h=>erw [h.2];exact eX (gO (bj (ak (ah hl) aq) c) aA (dT h.1)) aA
  | inr h=>erw [h.2];exact fz (gO (bj (ak (ah hl) aq) c) aA (dF h.1)) aA
 exact bI H4 (bz (F:=Q7) rfl rfl rfl (ij (gO (bj (bW rfl aq) (Rz (d:=d+12) hk)) aA (congrArg some h0)) (lR (bj (bW rfl (ak (bj (ak (ah rfl) aq) (Us (d:=d+12) hk)) aq)) r1) (mr (dj (eu rfl) (dj (eu rfl) jF))) (lR (bj (ak (bj (ak (ah rfl) (ak aA aq)) e2) (ak (ah rfl) aq)) e3) (mr (dj (eu rfl) (dj (eu rfl) jF))) (eQ (kL (bT (sg' rfl) (bj (ak (ah rfl) (ak (ah rfl) aq)) e4) (d9 hl)))))))) (K.trans K4)
def D9:t4:=by
 intro d H k m e hk g;simp only[m5,aR,lX,or_false,Prod.mk.injEq]at g;rcases g with⟨h,h'⟩ | ⟨h,h'⟩ | ⟨h,h'⟩ | ⟨h,h'⟩ | ⟨h,h'⟩ | ⟨h,h'⟩ <;> subst h <;> subst h'
 ·exact FF (s:= [53]) (t:= [53]) (sg:= []) (u:= [48,46,53]) (b':= -1) hk rfl rfl (.inr ⟨by decide,rfl⟩) QV (by decide+kernel) (by decide+kernel) (by decide+kernel) (by decide)
 ·exact FF (s:= [49,53]) (t:= [49,53]) (sg:= []) (u:= [49,46,53]) (b':= -1) hk rfl rfl (.inr ⟨by decide,rfl⟩) QU (by decide+kernel) (by decide+kernel) (by decide+kernel) (by decide)
 ·exact FF (s:= [49,50,53]) (t:= [49,50,53]) (sg:= [45]) (u:= [49,46,50,53]) (b':= -2) hk rfl rfl (.inl ⟨by decide,rfl⟩) QT (by decide+kernel) (by decide+kernel) (by decide+kernel) (by decide)
 ·exact bI H (bz (F:=Q7) rfl rfl rfl (mw (gO (bj (bW rfl aq) (Rz (d:=d+12) hk)) aA rfl) (fx aA))) Keep.refl
 ·exact FF (s:= [49]) (t:= [49]) (sg:= []) (u:= [49,48,48,46,48]) (b':=2) hk rfl rfl (.inr ⟨by decide,rfl⟩) QS (by decide+kernel) (by decide+kernel) (by decide+kernel) (by decide)
 ·exact FF (s:= [54,50,53]) (t:= [54,50,53]) (sg:= []) (u:= [48,46,48,54,50,53]) (b':= -4) hk rfl rfl (.inr ⟨by decide,rfl⟩) QR (by decide+kernel) (by decide+kernel) (by decide+kernel) (by decide)
end
end
mutual
abbrev L8(d:Nat)(h:Hp)(f:Nat)(args:List AV)(p:AV->Hp->Bool):Bool:=match (pv 400).call d h f args with
 | some (v,h')=>p v h'
 | none=>false
abbrev qF(f:Nat)(a:Int)(p:Nat×AV):Bool:=decide (p.1=f) && qJ a p.2
abbrev R9(f g:Nat)(a b:Int):List (Nat×AV)->Bool
 | [x,y]=>qF f a x && qF g b y
 | _=>false
abbrev qC(c f g:Nat)(a b:Int):Cell->Bool
 | .n c' l=>decide (c'=c) && R9 f g a b l
 | _=>false
abbrev qO(c f g:Nat)(a b:Int)(v:AV)(h:Hp):Bool:=match v with
 | .ref k=>(h[k]?).any (qC c f g a b)
 | _=>false
def G4:(m5.all λr=>L8 12 [] 76 [.int 53, .str (fQ r.1 r.2), .int 10] (qO 16 30 31 r.1 r.2))=true:=by decide+kernel
abbrev rt(c:Nat):Prop:=48<=c/\c<58
abbrev val(a:Nat):List Nat->Nat
 | []=>a
 | c::r=>val (a*10+(c-48)) r
noncomputable abbrev qU:List Nat:= [48,49,50,51,52,53,54,55,56,57,97,98,99,100,101,102]
noncomputable abbrev qV:List Nat:= [48,49,50,51,52,53,54,55,56,57]
def KW:∀c<58,48<=c->gh c qU=some (c-48):=by decide
def Ob:∀c<58,48<=c->qV.contains c=true:=by decide
def fV{n:Nat}(h:n<10 ^ 40):fR (n:Int)=true:=wm (ao h (ab rfl))
end
section
mutual
variable{c a:Nat}{ds:List Nat}
variable{d:Nat}{H:Hp}
def EU(hc:rt c):ue qU 5 [.str [c]] H=some (.int ((c-48:Nat):Int),H):=by
 show(gh c qU).map (λi:Nat=>(AV.int (i:Int),H))=_
 erw [KW c hc.2 hc.1];rfl
def NU(h:a<10 ^ 30):nY .mul (.int a) (.int 10) H=some (.int ((a*10:Nat):Int),H):=by
 show(eV (fR (a:Int) && fR 10) (some ((a:Int)*10))).map _=_
 erw [fV (ao h (cq (cI _) (ab rfl))),(show fR 10=true from fV (n:=10) (ao (show 10<10 ^ 2 from ab rfl) (cq (cI _) (ab rfl))))]
 rfl
def yz{X:Nat}(h:a<X)(hc:c<58):a*10+(c-48)<X*10:=ao (Nat.add_lt_add_left (lg (t7 (yW hc) 48)) _) (aj (iB (Nat.succ_mul a 10).symm) (Nat.mul_le_mul_right 10 h))
def sa{l0 l4 l5:Option AV}:∀(ds:List Nat) (a m:Nat) (x3:Option AV),(∀c∈ds,rt c)->a<10 ^ m->m+ds.length<=30->
  ∃x3',lO d [l0,some (.int 10),some (.int a),x3,l4,l5] H (.str ds) (.one 3) [(.aS (.v 2) (.o .add (.o .mul (.v 2) (.v 1)) (.meth (.lit (.str qU)) 5 [(.v 3)])))] (.next,[l0,some (.int 10),some (.int (val a ds)),x3',l4,l5],H)
 | [],a,m,x3,_,_,_=>⟨x3,iH rfl⟩
 | c::ds,a,m,x3,hd,ha,hm=>by
  have hc:=hd c bl;have h1:a*10+(c-48)<10 ^ (m+1):=by erw [Nat.pow_succ];exact yz ha hc.2
  obtain⟨x3',e⟩:=sa ds (a*10+(c-48)) (m+1) (some (.str [c])) (λc h=>hd c (bO _ h)) h1 (by simp only[aJ]at hm;exact(bF (aK bh az) (aI 30) [(aK ai cO,aI 30)] aS hm));exact⟨x3',fq rfl rfl (cL (bT (bT (ah rfl) (ah rfl) (NU (ao ha (cq (cI _) (aj (bw _ _) hm))))) (oS aA rfl (bW rfl aq) (EU hc)) rfl) rfl bb) e⟩
def Uq(hd:∀c∈ds,rt c)(hl:ds.length<=20):aQ (d+1) H 62 [.str ds, .int 10] (.int (val 0 ds),H):=by
 obtain⟨x3,e⟩:=sa (d:=d) (H:=H) (l0:=some (.str ds)) (l4:=none) (l5:=none) ds 0 1 none hd (ab rfl) (by exact(cA (aK (aI 1) ai) (aI 30) [(ai,aI 20)] aS hl));exact bz (F:=SL) rfl rfl rfl (cL aA rfl (aC (mN (ah rfl) rfl e) (fx (ah rfl))))
def tN{g:Nat->AV}{a:E}{i:Nat}:∀(cs:List Nat) (us:List AV) (ls:Ls),(∀c∈cs,∀(ls':Ls) H,ls'.length=ls.length->(∀j,j≠i->ls'[j]? =ls[j]?)->ls'[i]? =some (some (.str [c]))->Re d ls' H a (g c,H))->cg i ls.length=true->us.length+cs.length<=1000000->
  lP d ls (H++ [.list us]) (.str cs) (.one i) none a H.length (H++ [.list (us++cs.map g)])
 | [],us,ls,_,_,_=>by erw [mU,br];exact gq rfl
 | c::cs,us,ls,hb,hi,hu=>by
  have l1:(ls.set i (some (.str [c]))).length=ls.length:=iM;have o1:∀j,j≠i->(ls.set i (some (.str [c])))[j]? =ls[j]?:=λj h=>mv (Ne.symm h);have e:=tN cs (us++ [g c]) (ls.set i (some (.str [c]))) (λc' m ls' H h1 h2 h3=>hb c' (bO _ m) ls' H (h1.trans l1) (λj h=>(h2 j h).trans (o1 j h)) h3) (by erw [l1];exact hi) (by erw [ag];exact(f9 _ 1 _).symm ▸(dq cs.length 1 ▸hu));refine i4 (v:= .str [c]) (it':= .str cs) rfl (bB:=ls.set i (some (.str [c]))) (by show jh ls i (.str [c])=_;unfold jh;erw [hi];rfl) (hb c bl _ _ l1 o1 (lh (cM.mp hi))) aV (aN (aj (bw _ _) hu)) ?_
  erw [lF,e,aB]
  rfl
def qh:∀(cs:List Nat),lM (cs.map λzz=>AV.bool true)=some (cs.map λzz=>true)
 | []=>rfl
 | c::r=>congrArg (λz=>z.map (true::·)) (qh r)
def GW:iw (.str qU) none (some (.int 10)) H=some (.str qV,H):=by show eV (cG 16) _=_;erw [aN (ab rfl)];rfl
def Up(hd:∀c∈ds,rt c)(hl:ds.length<=1000000):aQ (d+1) H 63 [.str ds, .int 10] (.bool true,H++ [.list (ds.map λzz=> .bool true)]):=by
 have e:=tN (d:=d) (H:=H) (g:=λzz=> .bool true) (a:=(.j .isin (.v 2) (.slice (.lit (.str qU)) none (some (.v 1))))) (i:=2) ds [] [some (.str ds),some (.int 10),none,none] (λc m ls H h1 h2 h3=>dy (ah h3) (k6 aA (ah ((h2 1 (by decide)).trans rfl)) GW) (by show some (qV.contains c)=_;erw [Ob c (hd c m).2 (hd c m).1];rfl)) rfl (by show 0+_<=_;exact(cA (aK (aI 0) ai) cY [(ai,cY)] aS hl));refine bz (F:=SK) rfl rfl rfl (fx (eI (ak (k7 rfl (ah rfl) rfl e) aq) ?_));show(aF _ H.length).bind _=_;refine bo (a:=ds.map λzz=> .bool true) ?_ ?_
 ·unfold aF;rewrite [fN];erw [aV];rfl
 ·show(lM (ds.map λzz=>AV.bool true)).map _=_
  erw [qh]
  show some (AV.bool ((ds.map λzz=>true).all id),_)=_
  erw [(aT.mpr λb hb=>by refine aM (cN.mp hb) λzz zy e=>?_;exact e.symm)]
  rfl
end
end
mutual
def Dw:∀(ds:List Nat) (a m:Nat),(∀c∈ds,rt c)->a<10 ^ m->val a ds<10 ^ (m+ds.length)
 | [],a,m,_,h=>h
 | c::ds,a,m,hd,h=>by
  have hc:=(hd c bl).2;have:=Dw ds (a*10+(c-48)) (m+1) (λc m=>hd c (bO _ m)) (by erw [Nat.pow_succ];exact yz h hc)
  erw [aJ,<- f9,gr]
  exact this
def LN:fR 10=true:=fV (n:=10) (ao (show 10<10 ^ 2 from ab rfl) (cq (cI _) (ab rfl)))
def E8:fR 1=true:=fV (n:=1) (ao (show 1<10 ^ 1 from ab rfl) (cq (cI _) (ab rfl)))
def O1{k:Nat}:∀{l:List Nat},(∀c∈l,c≠k)->l.dropWhile (aX k)=l
 | [],_=>rfl
 | c::r,h=>by
  rw[List.dropWhile_cons_of_neg];intro e;exact h c bl (aW e).symm
def Ao{k:Nat}{l:List Nat}(h:∀c∈l,c≠k):nR k l=l:=by
 unfold nR
 erw [(O1 λc m=>h c (List.mem_reverse.mp m)),List.reverse_reverse];rfl
end
section
mutual
variable{ds:List Nat}{a b:AV}
variable{d:Nat}{H:Hp}
def Qp(hd:∀c∈ds,rt c):∀c∈ds,c≠35:=λc m e=>absurd (hd c m).1 (by erw [e];decide)
def Uo(h:∀c∈ds,c≠35)(hl:ds.length<=1000000):aQ (d+1) H 64 [.str ds] (.U [.str ds, .int 0],H):=by
 have e:ue ds 9 [.str [35]] H=some (.str ds,H):=by
  show eV (cG ds.length) (some (AV.str (nR 35 ds),H))=_
  erw [aN hl,Ao h];rfl
 exact bz (F:=SJ) rfl rfl rfl (cL (oS (ah rfl) rfl (gS aq) e) rfl (fx (gR (bW rfl (ak (bT (eI (ak (ah rfl) aq) (len_str hl)) (eI (ak (ah rfl) aq) (len_str hl)) (by show some (AV.int ((ds.length:Int)-ds.length),H)=some (.int 0,H);erw [Int.sub_self];rfl)) aq)) (aN (ab rfl)))))
def Th{c:AV}:aQ (d+1) (H++ [.n 19 []]) 65 [.ref H.length,a,b,c] (.none,H++ [.n 19 [(32,a),(33,b),(38,c)]]):=fB (F:=SI) rfl rfl rfl (aC (dU rfl (ah rfl) rfl rfl) (aC (dU rfl (ah rfl) rfl rfl) (aC (dU rfl (ah rfl) rfl rfl) bb)))
def Tj:aQ (d+1) (H++ [.n 17 []]) 42 [.ref H.length,a,b] (.none,H++ [.n 17 [(32,a),(33,b)]]):=fB (F:=SO) rfl rfl rfl (aC (dU rfl (ah rfl) rfl rfl) (aC (dU rfl (ah rfl) rfl rfl) bb))
def Rr(hd:∀c∈ds,rt c)(hn:ds≠ [])(hl:ds.length<=20):∃k H',aQ (d+2) H 66 [.str ds, .int 10] (.ref k,H')/\Hk H' k (.n 19 [(32, .int (val 0 ds)),(33, .int 1),(38, .bool true)])/\Keep all H H':=by
 have hl':ds.length<=1000000:=aj hl (ab rfl);have pw:∀H,nY .pow (.int 10) (.int 0) H=some (.int 1,H):=λH=>by
  show(eV (fR 10 && true) (some (HN 10 0))).map _=_
  erw [LN];rfl
 have ml:∀H,nY .mul (.int (val 0 ds)) (.int 1) H=some (.int (val 0 ds),H):=λH=>by
  show(eV (fR (val 0 ds:Int) && fR 1) (some ((val 0 ds:Int)*1))).map _=_
  erw [E8,(fV (ao (Dw ds 0 0 hd (ab rfl)) (cq (cI _) (by exact(cA (aK (aI 0) ai) (aI 40) [(ai,aI 20)] aS hl))))),Int.mul_one];rfl
 refine i7 _ _ (bz (F:=SH) rfl rfl rfl (lR (bj (bW rfl aq) (Uo (Qp hd) hl')) (mr (dj (eu rfl) (dj (eu rfl) jF))) (ij (iP (cT rfl (dF hn)) (uA (mx (ak (ah rfl) (ak (ah rfl) aq)) (Up hd hl')))) (fx (gH (C:=_) (ak (bT (bj (ak (ah rfl) (ak (ah rfl) aq)) (Uq hd hl)) (bT (ah rfl) (ah rfl) (pw _)) (ml _)) (ak aA (ak (dy (ah rfl) aA rfl) aq))) rfl Th))))) aV (Keep.app.trans Keep.app)
end
end
section
mutual
variable{q i:Int}
variable{d:Nat}{H:Hp}
def Hw{a b:Nat}:ET .mod (a:Int) ((b+1:Nat):Int)=some ((a % (b+1):Nat):Int):=by
 show eV (!decide (((b+1:Nat):Int)=0)) (some (gu a ((b+1:Nat):Int)))=_
 erw [decide_eq_false (mQ.mpr (AK b)),Int.fmod_eq_emod_of_nonneg _ (fE _)]
 rfl
def yn{l2 l3:Option AV}:∀(n b a:Nat),b<n->Rs d [some (.int a),some (.int b),l2,l3] H (.while (.j .ne (.v 1) (.lit (.int 0))) [(.aS (.U [(.v 0),(.v 1)]) (.U [(.v 1),(.o .mod (.v 0) (.v 1))]))]) (.next,[some (.int (yX b a)),some (.int 0),l2,l3],H)
 | 0,_,_,h=>absurd h (Nat.not_lt_zero _)
 | n+1,0,a,_=>by erw [Nat.gcd_zero_left];exact eS (cT rfl rfl)
 | n+1,b+1,a,h=>by
  have e:=yn (l2:=l2) (l3:=l3) n (a % (b+1)) (b+1) (ao (Nat.mod_lt _ (k9 b)) (yW h));rw[<- Nat.gcd_rec]at e;refine eR (cT rfl (nT (mQ.mpr (AK b)))) (lR (gR (bW rfl (ak (bT (ah rfl) (ah rfl) ?_) aq)) (aN (ab rfl))) (mr (dj (eu rfl) (dj (eu rfl) jF))) bb) e;exact congrArg (qZ λk=>(AV.int k,H)) (Hw (a:=a) (b:=b))
def Ti{p:Int}:aQ (d+1) H 43 [.int p, .int q] (.int (yX q.natAbs p.natAbs),H):=
 bz (F:=SN) rfl rfl rfl (lR (gR (ak (eI (bW rfl aq) rfl) (ak (eI (bW rfl aq) rfl) aq)) (aN (ab rfl))) (mr (dj (eu rfl) (dj (eu rfl) jF))) (aC (yn _ _ _ (cJ _)) (fx (ah rfl))))
def Iz:nY .fdiv (.int i) (.int 1) H=some (.int i,H):=by
 show(eV (!decide ((1:Int)=0) && fR 1) (some (lq i 1))).map _=_
 erw [E8,Int.fdiv_one];rfl
def Pa:aQ (d+3) H 45 [.int i, .int 1] (.int i,H):=by
 have g:aQ (d+2) H 43 [.int i, .int 1] (.int 1,H):=by show(_:Option (AV×Hp))=_;erw [Ti,(show(1:Int).natAbs=1 from rfl),Nat.gcd_one_left];rfl
 exact bz (F:=Ra) rfl rfl rfl (ij (cT rfl rfl) (cL (bj (bW rfl (ak (ah rfl) aq)) g) rfl (fx (bj (ak (bT (ah rfl) (ah rfl) Iz) (ak (bT (ah rfl) (ah rfl) Iz) aq)) (bz (F:=Rb) rfl rfl rfl (eQ (kL (eX (gF rfl (dy (ah rfl) aA rfl)) (ah rfl)))))))))
def Ry{p:Int}(h2:2<=q)(hg:yX q.natAbs p.natAbs=1):aQ (d+3) H 45 [.int p, .int q] (.ref H.length,H++ [.n 17 [(32, .int p),(33, .int q)]]):=by
 have g:aQ (d+2) H 43 [.int p, .int q] (.int 1,H):=by show(_:Option (AV×Hp))=_;erw [Ti,hg];rfl
 exact bz (F:=Ra) rfl rfl rfl (ij (cT rfl (dF (by exact(λzz=>(Dk [_] [] (.hz (.ik 2) (.iv 0) (.hz (.ip (.iv 0) (.ik 1)) (.ik 0) .ho)) aS h2 zz))))) (cL (bj (bW rfl (ak (ah rfl) aq)) g) rfl (fx (bj (ak (bT (ah rfl) (ah rfl) Iz) (ak (bT (ah rfl) (ah rfl) Iz) aq)) (bz (F:=Rb) rfl rfl rfl (eQ (kL (fz (gF rfl (dy (ah rfl) aA (dF (by exact(λzz=>(Dk [_] [] (.hz (.ik 2) (.iv 0) (.hz (.iv 0) (.ik 1) .ho)) aS h2 (wW zz))))))) (gH (ak (ah rfl) (ak (ah rfl) aq)) rfl Tj)))))))))
end
end
section
mutual
variable{s:List Nat}{i j:Nat}
variable{d:Nat}{H:Hp}
def pB(hl:s.length<=1000000):iw (.str s) (some (.int i)) (some (.int j)) H=some (.str ((s.take j).drop i),H):=by show eV (cG s.length) _=_;erw [aN hl];rfl
def oH(hl:s.length<=1000000):iw (.str s) (some (.int i)) none H=some (.str (s.drop i),H):=by
 show eV (cG s.length) (some (AV.str ((s.take s.length).drop i),H))=_
 erw [aN hl,qn];rfl
def DS(hl:s.length<=1000000):iw (.str s) none (some (.int j)) H=some (.str (s.take j),H):=by show eV (cG s.length) _=_;erw [aN hl];rfl
def Ul{c:Nat}{r:List Nat}(hc:c≠35)(hl:(c::r).length<=1000000):aQ (d+1) H 74 [.str (c::r), .int 10] (.U [.str (c::r), .int 10, .str []],H):=
 bz (F:=SE) rfl rfl rfl (lR (gR (gS (gS (ak aA aq))) (aN (ab rfl))) (mr (dj (eu rfl) (dj (eu rfl) (dj (eu rfl) jF)))) (aC (eS (gO (jC (ah rfl) (ah rfl) (bT (ah rfl) aA rfl) (pB (i:=0) (j:=1) hl)) aA (eq_str (mE hc)))) (fx (gR (ak (oU (ah rfl) (ah rfl) (oH (i:=0) hl)) (bW rfl (ak (ah rfl) aq))) (aN (ab rfl))))))
def sL{l0:Option AV}{us:List AV}{a:E}:∀(cs:List Nat) (j:Nat) (x2 x3:Option AV),(∀c∈cs,c<100)->lP d [l0,none,x2,x3] (H++ [.list us]) (.enum j cs) (.many [2,3]) (some (.j .isin (.v 3) (.lit (.str [101,115,102,100,108])))) a H.length (H++ [.list us])
 | [],_,_,_,_=>gq rfl
 | c::cs,j,x2,x3,h=>by
  have e:=sL (a:=a) (us:=us) (l0:=l0) cs (j+1) (some (.int j)) (some (.str [c])) (λc m=>h c (bO _ m));have hc:=h c bl;have:([101,115,102,100,108]:List Nat).contains c=false:=by
   cases hb:([101,115,102,100,108]:List Nat).contains c with
   | false=>rfl
   | true=>
    have:=fu.mp hb
    simp only[aR,lX,or_false]at this
    lia
  exact u4 (v:= .U [.int j, .str [c]]) (it':= .enum (j+1) cs) rfl rfl (cT rfl (by show some (List.contains _ c)=_;erw [this];rfl)) e
def Um{cs:List Nat}(h:∀c∈cs,c<100)(hl:cs.length<=1000000):∃H',aQ (d+1) H 70 [.str cs] (.int cs.length,H')/\Keep all H H':=by
 have e:=sL (d:=d) (H:=H) (l0:=some (.str cs)) (us:= []) (a:= .v 2) cs 0 none none h;have ne:iI ((H++ [.list []])++ [.list []]) .ne (.ref H.length) (.ref (H++ [Cell.list []]).length)=some false:=by
  have:Gj ((H++ [.list []])++ [.list []]) (.ref H.length) (.ref (H++ [Cell.list []]).length)=some true:=by
   refine bo (a:= []) ?_ (bo (a:= []) ?_ rfl)
   ·unfold aF;erw [bD aV];rfl
   ·unfold aF;erw [aV];rfl
  exact mo this
 exact bI _ (bz (F:=SF) rfl rfl rfl (cL (Iy rfl (ah rfl) e) rfl (fx (fz (gO (ah rfl) (fK aq (aN (aY _))) ne) (eI (bW rfl aq) (len_str hl)))))) (Keep.app.trans Keep.app)
end
end
mutual
def jO:∀{n:Nat},n<=1000->(∀c∈bR n,rt c)/\bR n≠ []/\(bR n).length<=4/\val 0 (bR n)=n:=by
 intro n h;have t:((cS 1001).all λn=>(bR n).all (λc=>dn 48 c && cg c 58) && (!(bR n).isEmpty && (dn (bR n).length 4 && aX (val 0 (bR n)) n)))=true:=by decide+kernel
 have:=aT.mp t n (List.mem_range.mpr (lg h));simp only[cw,aT]at this;refine Ae (λc m=>⟨ab (this.1 c m).1,cM.mp (this.1 c m).2⟩) (λe=>?_) (ab this.2.2.1) (aW this.2.2.2);rw[e]at this;exact absurd this.2.1 (by decide)
def Jv{ds:List Nat}{k:Nat}(hd:∀c∈ds,rt c)(hk:k<48):ds.contains k=false:=by
 cases hb:ds.contains k with
 | false=>rfl
 | true=>exact absurd (hd k (fu.mp hb)).1 (AL hk)
def xP:∀{s:List Nat},(∀c∈s,c<65)->xQ s=some s
 | [],_=>rfl
 | c::r,h=>by
  have hc:=h c bl;show(match cg c 128 with | false=>none | true=>(xQ r).map ((match dn 65 c && dn c 90 with | true=>c+32 | false=>c)::·))=_
  erw [cM.mpr (gK hc (ab rfl)),(xP λc m=>h c (bO _ m)),(show dn 65 c=false from gN.mpr λe=>AL hc (ab e))]
  rfl
end
section
mutual
variable{d:Nat}{H:Hp}
def O8{ds:List Nat}(hd:∀c∈ds,rt c)(hn:ds≠ [])(hl:ds.length<=20):∃k H',aQ (d+3) H 73 [.str ds, .int 10] (.ref k,H')/\Hk H' k (.n 19 [(32, .int (val 0 ds)),(33, .int 1),(38, .bool true)])/\Keep all H H':=by
 have hl':ds.length<=1000000:=aj hl (ab rfl);refine aM (Um (d:=d+1) (H:=H) (cs:=ds) (λc m=>gK (hd c m).2 (ab rfl)) hl') λH1 e1 K1=>?_;refine dY (Rr (d:=d) (H:=H1) hd hn hl) λk H2 e2 h2 K2=>?_;exact i7 k H2 (bz (F:=Q5) rfl rfl rfl (ij (gO aA (ah rfl) (by show some (ds.contains 47)=_;erw [(Jv hd (by decide))];rfl)) (ij (mz (cT rfl rfl) (iP (gO aA (ah rfl) (by show some (ds.contains 46)=_;erw [(Jv hd (by decide))];rfl)) (gO (bj (ak (ah rfl) aq) e1) (eI (ak (ah rfl) aq) (len_str hl')) (dF (o7 _))))) (fx (bj (ak (ah rfl) (ak (ah rfl) aq)) e2))))) h2 (K1.trans K2)
def P6{p q:Int}{r:AV×Hp}(h:aQ (d+3) H 45 [.int p, .int q] r):aQ (d+4) H 75 [.int 53, .int p, .int q, .bool true] r:=
 bz (F:=SD) rfl rfl rfl (mw (gF rfl (ah rfl)) (fx (bj (bW rfl (ak (ah rfl) aq)) h)))
def EV{c:Nat}{q:Bool}(h:(decide (([43]:List Nat)= [c]) || (decide (([45]:List Nat)= [c]) || false))=q):iI H .isin (.str [c]) (.U [.str [43], .str [45]])=some q:=congrArg some h
def Hv{a b:Int}(ha:fR a=true)(hb:fR b=true):nY .mul (.int a) (.int b) H=some (.int (a*b),H):=by
 show(eV (fR a && fR b) (some (a*b))).map _=_
 erw [ha,hb];rfl
end
end
section
mutual
variable{d:Nat}{H H':Hp}
def P0{c k:Nat}{w w':List Nat}{ng pm:Bool}{a b:Int}{r:AV×Hp}(hw:∀x∈c::w,x<65)(hc:c≠35)(hl:(c::w).length<=1000000)(hs:decide (([c]:List Nat)= [45])=ng)(hp:(decide (([43]:List Nat)= [c]) || (decide (([45]:List Nat)= [c]) || false))=pm)(hw':w'=cond pm w (c::w))
  (e73:aQ (d+4) H 73 [.str w', .int 10] (.ref k,H'))(hk:Hk H' k (.n 19 [(32, .int a),(33, .int b),(38, .bool true)]))(hm:fR a=true)(hm1:fR (-1)=true)(e75:aQ (d+4) H' 75 [.int 53, .int (cond ng (-1) 1*a), .int b, .bool true] r):aQ (d+5) H 76 [.int 53, .str (c::w), .int 10] r:=by
 have lo:ue (c::w) 7 [] H=some (.str (c::w),H):=by
  show eV (cG (c::w).length) ((xQ (c::w)).map λx=>(AV.str x,H))=_
  erw [aN hl,xP hw];rfl
 have tk:∀{H:Hp},iw (.str (c::w)) none (some (.int 1)) H=some (.str [c],H):=DS (j:=1) hl;have s4:∀{ls:Ls} {H:Hp},ls[4]? =some (some (.str (c::w)))->Re (d+4) ls H (.ife (.j .eq (.slice (.v 4) none (some (.lit (.int 1)))) (.lit (.str [45]))) (.neg (.lit (.int 1))) (.lit (.int 1))) (.int (cond ng (-1) 1),H):=fun{ls H} h=>by
  have:=gF (H:=H) (c:= .j .eq (.slice (.v 4) none (some (.lit (.int 1)))) (.lit (.str [45]))) rfl (dy (d:=d+4) (H:=H) (k6 (ah h) aA tk) aA (eq_str hs))
  cases ng using aG with
  | true=>exact eX this (p6 aA)
  | false=>exact fz this aA
 have s5:∀{ls:Ls} {H:Hp},ls[4]? =some (some (.str (c::w)))->Re (d+4) ls H (.ife (.j .isin (.slice (.v 4) none (some (.lit (.int 1)))) (.U [(.lit (.str [43])),(.lit (.str [45]))])) (.slice (.v 4) (some (.lit (.int 1))) none) (.v 4)) (.str w',H):=fun{ls H} h=>by
  have:=gF (H:=H) (c:= .j .isin (.slice (.v 4) none (some (.lit (.int 1)))) (.U [(.lit (.str [43])),(.lit (.str [45]))])) rfl (dy (d:=d+4) (H:=H) (k6 (ah h) aA tk) (gR (gS (gS aq)) (aN (ab rfl))) (EV hp))
  subst hw'
  cases pm using aG with
  | true=>exact eX this (oU (ah h) aA (oH (i:=1) hl))
  | false=>exact fz this (ah h)
 have fn:fR (cond ng (-1) 1)=true:=by
  cases ng using aG with
  | true=>exact hm1
  | false=>exact E8
 exact bz (F:=SA) rfl rfl rfl (cL (bj (ak (oS (ah rfl) rfl aq lo) (bW rfl aq)) (Ul hc hl)) rfl (ij (cT rfl rfl) (lR (ah rfl) (mr (dj (eu rfl) (dj (eu rfl) (dj (eu rfl) jF)))) (aC (iU (s4 rfl) (eu rfl)) (aC (iU (bj (ak (s5 rfl) (ak (ah rfl) aq)) e73) (eu rfl)) (aC (cV (gF rfl (dy (ah rfl) aA rfl)) bb) (aC (iU (An (dy (ah rfl) aA rfl) (BH (dy (ah rfl) aA rfl) (de (ah rfl) hk rfl rfl))) (eu rfl)) (eQ (kL (bj (ak (ah rfl) (ak (bT (ah rfl) (de (ah rfl) hk rfl rfl) (Hv fn hm)) (ak (de (ah rfl) hk rfl rfl) (ak (ah rfl) aq)))) e75))))))))))
end
end
section
mutual
variable{c:Nat}
variable{d:Nat}{H H':Hp}
def j8{k:Nat}(h:rt c)(hk:k<48):k≠c:=λe=>absurd h.1 (by erw [<- e];exact AL hk)
def A2(h:rt c):decide (([c]:List Nat)= [45])=false:=mE (Ne.symm (j8 h (by decide)))
def A3(h:rt c):(decide (([43]:List Nat)= [c]) || (decide (([45]:List Nat)= [c]) || false))=false:=by
 erw [(mE (j8 h (by decide))),(mE (j8 h (by decide)))];rfl
def xD{a:Nat}:∀{r:AV×Hp} {b:Int},aQ (d+4) H' 75 [.int 53, .int (a:Int), .int b, .bool true] r->aQ (d+4) H' 75 [.int 53, .int (cond false (-1) 1*(a:Int)), .int b, .bool true] r:=λh=>by
 erw [(show cond false (-1) (1:Int)=1 from rfl),Int.one_mul];exact h
def Ro{i:Int}(hi:i.natAbs<=1000):∃H',aQ (d+5) H 76 [.int 53, .str (dH i), .int 10] (.int i,H')/\Keep all H H':=by
 cases i using iu with
 | ofNat n=>
  refine vr (jO (n:=n) hi) λhd hn hl hv=>?_;refine dY (O8 (d:=d+1) (H:=H) hd hn (aj hl (ab rfl))) λk H' e hk K=>?_;rw[hv]at hk;refine bI H' ?_ K;show R.call (d+5) H 76 [.int 53, .str (bR n), .int 10]=_;cases hw:bR n with
  | nil=>exact absurd hw hn
  | cons c w=>
   rw[hw]at hd hl e;have hc:=hd c bl;exact P0 (w':=c::w) (λx m=>gK (hd x m).2 (ab rfl)) (Ne.symm (j8 hc (by decide))) (aj hl (ab rfl)) (A2 hc) (A3 hc) rfl e hk (fV (fC hi (ao (show 1000<10 ^ 4 from ab rfl) (cq (cI _) (ab rfl))))) tJ (xD (P6 Pa))
 | negSucc n=>
  have hi':n+1<=1000:=hi;refine vr (jO hi') λhd hn hl hv=>?_;refine dY (O8 (d:=d+1) (H:=H) hd hn (aj hl (ab rfl))) λk H' e hk K=>?_;rw[hv]at hk;refine bI H' ?_ K;show R.call (d+5) H 76 [.int 53, .str (45::bR (n+1)), .int 10]=_;refine P0 (ng:=true) (pm:=true) (w':=bR (n+1)) (λx m=>?_) (by decide) (dB (aj hl (ab rfl))) (by decide) (by decide) rfl e hk (fV (fC hi' (ao (show 1000<10 ^ 4 from ab rfl) (cq (cI _) (ab rfl))))) tJ (P6 ?_)
  ·cases aR.mp m with
   | inl h=>erw [h];decide
   | inr h=>exact gK (hd x h).2 (ab rfl)
  ·erw [(show cond true (-1) (1:Int)*((n+1:Nat):Int)=B1 n from by erw [(show cond true (-1) (1:Int)= -1 from rfl),Int.neg_one_mul];rfl)]
   exact Pa
end
end
mutual
def uB:∀{a:List Nat},(∀c∈a,rt c)->eZ 47 a= [a]
 | [],_=>rfl
 | c::r,h=>by
  have hc:=h c bl;unfold eZ
  erw [(show aX c 47=false from gN.mpr λe=>j8 hc (by decide) (aW e).symm),(uB λc m=>h c (bO _ m))];rfl
def uC{b:List Nat}(hb:∀c∈b,rt c):∀{a:List Nat},(∀c∈a,rt c)->eZ 47 (a++47::b)= [a,b]
 | [],_=>by
  show eZ 47 (47::b)=_;unfold eZ
  erw [(show aX 47 47=true from rfl),uB hb];rfl
 | c::r,h=>by
  have hc:=h c bl;show eZ 47 (c::(r++47::b))=_;unfold eZ
  erw [(show aX c 47=false from gN.mpr λe=>j8 hc (by decide) (aW e).symm),(uC hb λc m=>h c (bO _ m))];rfl
end
section
mutual
variable{d:Nat}{H H':Hp}
def Un{a b:List Nat}(ha:∀c∈a,rt c)(hb:∀c∈b,rt c)(na:a≠ [])(nb:b≠ [])(la:a.length<=20)(lb:b.length<=20)(h0:val 0 b≠0):∃k H',aQ (d+3) H 67 [.str (a++47::b), .int 10] (.ref k,H')/\Hk H' k (.n 19 [(32, .int (val 0 a)),(33, .int (val 0 b)),(38, .bool true)])/\Keep all H H':=by
 have K0:Keep all H (H++ [.list [.str a, .str b]]):=Keep.app;refine dY (Rr (d:=d) (H:=H++ [.list [.str a, .str b]]) ha na la) λk1 H1 e1 h1 K1=>?_;refine dY (Rr (d:=d) (H:=H1) hb nb lb) λk2 H2 e2 h2 K2=>?_;have hl:(a++47::b).length<=1000000:=by simp only[ag,aJ];exact(bF (aK ai cO) cY [(az,aI 20),(ai,aI 20)] aS lb la)
 have sp:ue (a++47::b) 10 [.str [47]] H=some (.ref H.length,H++ [.list [.str a, .str b]]):=by
  show eV (cG (a++47::b).length) (some (lN H (.list ((eZ 47 (a++47::b)).map .str))))=_
  erw [aN hl,uC hb ha];rfl
 have g0:Hk (H++ [Cell.list [.str a, .str b]]) (H.length) (.list [.str a, .str b]):=aV;have g1:=K1.at_ _ _ trivial g0;have h1':=K2.at_ _ _ trivial h1;refine i7 _ _ (bz (F:=SG) rfl rfl rfl (cL (oS (ah rfl) rfl (gS aq) sp) rfl (ij (gO (eI (ak (ah rfl) aq) (ku g0 (ab rfl))) aA rfl) (lR (gR (ak (bj (ak (dD (ah rfl) aA (fi (i:=0) g0 (ab rfl) rfl)) (ak (ah rfl) aq)) e1) (ak (bj (ak (dD (ah rfl) aA (fi (i:=1) g1 (ab rfl) rfl)) (ak (ah rfl) aq)) e2) aq)) (aN (ab rfl))) (mr (dj (eu rfl) (dj (eu rfl) jF))) (aC (cV (iP (gF rfl (dy (ah rfl) aA rfl)) (iP (gF rfl (dy (ah rfl) aA rfl)) (gF rfl (dy (de (ah rfl) h2 rfl rfl) aA (dF (mQ.mpr h0)))))) bb) (eQ (kL (gH (ak (de (ah rfl) h1' rfl rfl) (ak (de (ah rfl) h2 rfl rfl) (ak (BH (de (ah rfl) h1' rfl rfl) (de (ah rfl) h2 rfl rfl)) aq))) rfl Th)))))))) aV (((K0.trans K1).trans K2).trans Keep.app)
end
end
section
mutual
variable{a b:List Nat}
variable{d:Nat}{H H':Hp}
def Rq(ha:∀c∈a,rt c)(hb:∀c∈b,rt c)(na:a≠ [])(nb:b≠ [])(la:a.length<=20)(lb:b.length<=20)(h0:val 0 b≠0):∃k H',aQ (d+4) H 73 [.str (a++47::b), .int 10] (.ref k,H')/\Hk H' k (.n 19 [(32, .int (val 0 a)),(33, .int (val 0 b)),(38, .bool true)])/\Keep all H H':=by
 refine dY (Un (d:=d) (H:=H) ha hb na nb la lb h0) λk H' e hk K=>?_;exact i7 k H' (bz (F:=Q5) rfl rfl rfl (mw (gO aA (ah rfl) (by show some ((a++47::b).contains 47)=_;erw [fu.mpr (bC _ bl)];rfl)) (fx (bj (bW rfl (ak (ah rfl) aq)) e)))) hk K
def N2(ha:∀c∈a,rt c)(hb:∀c∈b,rt c):∀x∈a++47::b,x<65:=λx m=>by
 cases dz.mp m with
 | inl h=>exact gK (ha x h).2 (ab rfl)
 | inr h=>cases aR.mp h with
  | inl h=>erw [h];decide
  | inr h=>exact gK (hb x h).2 (ab rfl)
def E7{n:Nat}(h:n<=1000):fR (n:Int)=true:=fV (fC h (ao (show 1000<10 ^ 4 from ab rfl) (cq (cI _) (ab rfl))))
def Rn{p:Int}{q:Nat}(hp:p.natAbs<=1000)(h2:2<=q)(hq:q<=1000)(hg:yX q p.natAbs=1):∃k H',aQ (d+5) H 76 [.int 53, .str (dH p++47::bR q), .int 10] (.ref k,H')/\Hk H' k (.n 17 [(32, .int p),(33, .int q)])/\Keep all H H':=by
 refine vr (jO hq) λhbd hbn hbl hbv=>?_;have q2:(2:Int)<=(q:Int):=bP.mpr h2;have hb20:(bR q).length<=20:=aj hbl (ab rfl);refine vr (jO hp) λhad han hal hav=>?_;have ha20:(bR p.natAbs).length<=20:=aj hal (ab rfl);refine dY (Rq (d:=d) (H:=H) had hbd han hbn ha20 hb20 (by erw [hbv];exact(λzz=>(Q1 [(aI 2,ai),(ai,aI 0)] aS h2 (pK zz))))) λk H1 e hk K=>?_;rw[hav,hbv]at hk;have g45:R.call (d+3) H1 45 [.int p, .int q]=_:=Ry q2 hg;refine i7 H1.length (H1++ [.n 17 [(32, .int p),(33, .int q)]]) ?_ aV (K.trans Keep.app)
 cases p using iu with
 | ofNat n=>
  show R.call (d+5) H 76 [.int 53, .str (bR n++47::bR q), .int 10]=_;have e':aQ (d+4) H 73 [.str (bR n++47::bR q), .int 10] (.ref k,H1):=e;have had':∀c∈bR n,rt c:=had;have hal':(bR n).length<=4:=hal;cases hw:bR n with
  | nil=>exact absurd hw han
  | cons c w=>
   rw[hw]at e' had' hal';have hc:=had' c bl;have hlen:(c::(w++47::bR q)).length<=1000000:=by erw [aJ,ag,aJ];rw[aJ]at hal';exact(bF (eT (aK ai cO)) cY [(az,aI 4),(bh,aI 4)] aS hbl hal')
   exact P0 (w':=c::(w++47::bR q)) (N2 had' hbd) (Ne.symm (j8 hc (by decide))) hlen (A2 hc) (A3 hc) rfl e' hk (E7 hp) tJ (xD (P6 g45))
 | negSucc n=>
  have had':∀c∈bR (n+1),rt c:=had;have hal':(bR (n+1)).length<=4:=hal;have e':aQ (d+4) H 73 [.str (bR (n+1)++47::bR q), .int 10] (.ref k,H1):=e;show R.call (d+5) H 76 [.int 53, .str (45::(bR (n+1)++47::bR q)), .int 10]=_;refine P0 (ng:=true) (pm:=true) (w':=bR (n+1)++47::bR q) (λx m=>?_) (by decide) (by simp only[aJ,ag];exact(bF (eT (aK ai cO)) cY [(az,aI 4),(ai,aI 4)] aS hbl hal')) (by decide) (by decide) rfl e' hk (E7 hp) tJ (P6 ?_)
  ·cases aR.mp m with
   | inl h=>erw [h];decide
   | inr h=>exact N2 had' hbd x h
  ·erw [(show cond true (-1) (1:Int)*(((B1 n).natAbs:Nat):Int)=B1 n from by erw [(show cond true (-1) (1:Int)= -1 from rfl),Int.neg_one_mul];rfl)]
   exact g45
end
end
section
mutual
variable{a b:Int}{g c:Nat}
variable{H h:Hp}{d D f:Nat}{args:List AV}{p:AV->Hp->Bool}
def HV(e:L8 d h f args p=true):∃v h',p v h'=true/\aQ (d+D) (G H h) f (shs H.length args) (sh H.length v,G H h'):=by
 unfold L8 at e;cases h1:(pv 400).call d h f args with
 | none=>rw[h1]at e;exact nomatch e
 | some r=>rw[h1]at e;exact kX r.1 r.2 e (FM h1)
def Jp{f:Nat}{p:Nat×AV}(h:qF f a p=true):p=(f, .int a):=by
 have h:=ae.mp h;exact Prod.ext (of_decide_eq_true h.1) (Bc h.2)
def KS{f:Nat}{l:List (Nat×AV)}(h:R9 f g a b l=true):l= [(f, .int a),(g, .int b)]:=by
 rcases l with _ | ⟨x,_ | ⟨y,_ | ⟨z,l⟩⟩⟩
 ·exact ly h
 ·exact ly h
 ·have h:=ae.mp h
  erw [Jp h.1,Jp h.2];rfl
 ·exact ly h
def NF{f:Nat}{x:Cell}(h:qC c f g a b x=true):x= .n c [(f, .int a),(g, .int b)]:=by
 cases x using Cell.casesOn with
 | n c' l=>
  have h:=ae.mp h
  erw [of_decide_eq_true h.1,KS h.2];rfl
 | _=>exact ly h
def ND{f:Nat}{v:AV}{h:Hp}(e:qO c f g a b v h=true):∃k,v= .ref k/\h[k]? =some (.n c [(f, .int a),(g, .int b)]):=by
 cases v using AV.casesOn with
 | ref k=>
  refine aM ((iz _ _).mp e) λx hx q=>?_;exact bI k rfl (hx.trans (congrArg some (NF q)))
 | _=>exact ly e
def Rp{m e:Int}(hr:(m,e)∈m5):∃k H',aQ (12+D) H 76 [.int 53, .str (fQ m e), .int 10] (.ref k,H')/\Hk H' k (.n 16 [(30, .int m),(31, .int e)])/\Keep all H H':=by
 refine gz (HV (H:=H) (D:=D) (aT.mp G4 (m,e) hr)) λv h' hp e1=>?_;refine aM (ND hp) λk hv hk=>?_;subst hv;rw[show G H []=H from br H]at e1;exact i7 (k+H.length) (G H h') e1 (by show(_:Option Cell)=_;erw [ua,hk];rfl) Keep.app
end
end
mutual
abbrev qB(b:Bool):AV->Bool
 | .bool c=>decide (c=b)
 | _=>false
def NG{b:Bool}{v:AV}(h:qB b v=true):v= .bool b:=by
 cases v using AV.casesOn with | bool t=>erw [of_decide_eq_true h];rfl | _=>exact ly h
def AU:(names.all λs=>yG 8 [] 78 [.str s] (qS s) && yG 8 [] 81 [.str s] (qB true))=true:=by decide+kernel
end
section
mutual
variable{s:List Nat}
variable{H:Hp}{d D:Nat}
def xI(h:s∈names):∃H',aQ (8+D) H 78 [.str s] (.str s,H')/\Keep all H H':=by
 have:=(ae.mp (aT.mp AU s h)).1;refine dY (lK (H:=H) (D:=D) this rfl) λv H' hp e K=>?_;cases uI hp
 exact bI H' e K
def zU(h:s∈names):∃H',aQ (8+D) H 81 [.str s] (.bool true,H')/\Keep all H H':=by
 have:=(ae.mp (aT.mp AU s h)).2;refine dY (lK (H:=H) (D:=D) this rfl) λv H' hp e K=>?_;cases NG hp
 exact bI H' e K
end
end
mutual
abbrev Lx(H:Hp)(l:Nat)(t:List Nat)(p:Nat):Prop:=Hk H l (.n 21 [(13, .str t),(42, .int 53),(26, .int p),(43, .bool true)])
abbrev Tk(H:Hp)(k:Nat)(w:List Nat)(v:AV)(s e:Nat):Prop:=Hk H k (.n 20 [(23, .str w),(39,v),(40, .int s),(41, .int e)])
end
section
mutual
variable{d:Nat}{H H':Hp}{l p e:Nat}{t w:List Nat}{v:AV}
def Tg{a b c f:AV}:aQ (d+1) (H++ [.n 20 []]) 77 [.ref H.length,a,b,c,f] (.none,H++ [.n 20 [(23,a),(39,b),(40,c),(41,f)]]):=fB (F:=Sz) rfl rfl rfl (aC (dU rfl (ah rfl) rfl rfl) (aC (dU rfl (ah rfl) rfl rfl) (aC (dU rfl (ah rfl) rfl rfl) (aC (dU rfl (ah rfl) rfl rfl) bb))))
def JX(L:Lx H l t p):∃k H',aQ (d+2) H 89 [.ref l, .str w,v, .int e] (.ref k,H')/\Tk H' k w v p e/\Lx H' l t e/\Keep (·≠l) H H':=by
 have g:(H.set l (.n 21 [(13, .str t),(42, .int 53),(26, .int e),(43, .bool true)]))[l]? =_:=cP (bx L);exact d4 _ _ (bz (F:=Ss) rfl rfl rfl (cL (cC rfl L rfl rfl) rfl (lR (ah rfl) (jG (ah rfl) L rfl rfl) (fx (gH (ak (ah rfl) (ak (ah rfl) (ak (ah rfl) (ak (ah rfl) aq)))) rfl Tg))))) aV (bD g) ((Keep.set λo=>o rfl).trans Keep.app)
end
end
mutual
noncomputable abbrev qc:List Nat:= [32,10,9,13,12,40,41,34,59]
noncomputable abbrev Ck:List Nat:= [91,93,123,125,124]
noncomputable abbrev Rc:S:=(.while (.and (.j .lt (.v 2) (.bi .len [(.aT (.v 0) 13)])) (.j .notin (.idx (.aT (.v 0) 13) (.v 2)) (.lit (.str qc)))) [(.ite (.j .isin (.idx (.aT (.v 0) 13) (.v 2)) (.lit (.str Ck))) [.fail] []),(.aS (.v 2) (.o .add (.v 2) (.lit (.int 1))))])
end
section
mutual
variable{c:Nat}{s:List Nat}{q:Bool}
variable{d:Nat}{H H':Hp}{l p:Nat}{t:List Nat}
def jM(h:s.contains c=q):iI H .isin (.str [c]) (.str s)=some q:=congrArg some h
def pI(h:s.contains c= !q):iI H .notin (.str [c]) (.str s)=some q:=by
 show(some (s.contains c)).map (!·)=_
 erw [h]
 induction q using aG <;> rfl
def yy{x1:Option AV}(L:Lx H l t p)(hl:t.length<=1000000):∀(n a:Nat),(∀i,i<n->∃c,t[a+i]? =some c/\qc.contains c=false/\Ck.contains c=false)->(∀c,t[a+n]? =some c->qc.contains c=true)->
  Rs d [some (.ref l),x1,some (.int a),none,none] H Rc (.next,[some (.ref l),x1,some (.int (a+n:Nat)),none,none],H)
 | 0,a,_,hs=>by
  have ln:Re d [some (.ref l),x1,some (.int a),none,none] H (.bi .len [(.aT (.v 0) 13)]) (.int t.length,H):=eI (ak (cC rfl L rfl rfl) aq) (len_str hl);cases hc:t[a]? with
  | none=>exact eS (pk (gO (ah rfl) ln (dF (jg.mpr (bP.mpr (fm.mp hc))))))
  | some c=>exact eS (mz (gO (ah rfl) ln (dT (fX.mpr (aU.mp hc).1))) (gO (dD (cC rfl L rfl rfl) (ah rfl) (jb hc hl)) aA (pI (hs c hc))))
 | n+1,a,hi,hs=>by
  refine dt (hi 0 (k9 n)) λc hc h1 h2=>?_;have ln:Re d [some (.ref l),x1,some (.int a),none,none] H (.bi .len [(.aT (.v 0) 13)]) (.int t.length,H):=eI (ak (cC rfl L rfl rfl) aq) (len_str hl);have e:=yy (x1:=x1) L hl n (a+1) (λi h=>by erw [f9,dq 1 i];exact hi (i+1) (Nat.succ_lt_succ h)) (by erw [f9,dq 1 n];exact hs);rw[f9,dq 1 n]at e;exact eR (mz (gO (ah rfl) ln (dT (fX.mpr (aU.mp hc).1))) (gO (dD (cC rfl L rfl rfl) (ah rfl) (jb hc hl)) aA (pI h1))) (ij (gO (dD (cC rfl L rfl rfl) (ah rfl) (jb hc hl)) aA (jM h2)) (cL (bT (ah rfl) aA rfl) rfl bb)) e
def Ub(L:Lx H l t p)(hl:t.length<=1000000){n a:Nat}(hi:∀i,i<n->∃c,t[a+i]? =some c/\qc.contains c=false/\Ck.contains c=false)(hs:∀c,t[a+n]? =some c->qc.contains c=true):aQ (d+1) H 90 [.ref l, .int a] (.int (a+n:Nat),H):=
 bz (F:=Sr) rfl rfl rfl (cL (ah rfl) rfl (aC (yy L hl n a hi hs) (fx (ah rfl))))
end
end
mutual
abbrev HL(c:Nat):Prop:=rt c\/c=45
end
section
mutual
variable{d:Nat}{H H':Hp}{c:Nat}{w:List Nat}
def vV(h:HL c):([97,98,99,100,101,102,103,104,105,106,107,108,109,110,111,112,113,114,115,116,117,118,119,120,121,122]:List Nat).contains c=false/\([33,36,37,38,42,47,58,60,61,62,63,94,95,126]:List Nat).contains c=false/\(qV.contains c || ([43,45,46]:List Nat).contains c)=true:=by
 have t:∀c<58,45<=c->c≠46->c≠47->([97,98,99,100,101,102,103,104,105,106,107,108,109,110,111,112,113,114,115,116,117,118,119,120,121,122]:List Nat).contains c=false/\([33,36,37,38,42,47,58,60,61,62,63,94,95,126]:List Nat).contains c=false/\(qV.contains c || ([43,45,46]:List Nat).contains c)=true:=by decide
 cases h using cW with
 | inl h=>exact t c h.2 (aj (by decide) h.1) (Ne.symm (j8 h (by decide))) (Ne.symm (j8 h (by decide)))
 | inr h=>exact t c (by erw [h];decide) (by erw [h];decide) (by erw [h];decide) (by erw [h];decide)
def Uj(h:HL c):aQ (d+1) H 79 [.str [c]] (.bool false,H):=
 bz (F:=Sx) rfl rfl rfl (fx (An (dy (ah rfl) aA (jM (vV h).1)) (dy (ah rfl) aA (jM (vV h).2.1))))
def Uh(h:HL c)(hl:(c::w).length<=1000000):aQ (d+1) H 82 [.str (c::w)] (.bool true,H):=by
 have f:=(vV h).2.2;refine bz (F:=Sv) rfl rfl rfl (fx ?_);have ix:Re d [some (.str (c::w)),none,none] H (.idx (.v 0) (.lit (.int 0))) (.str [c],H):=dD (ah rfl) aA (jb (i:=0) rfl hl);cases h1:qV.contains c with
 | true=>exact LZ (dy ix aA (jM h1))
 | false=>
  rw[h1]at f;exact An (dy ix aA (jM h1)) (dy ix aA (jM f))
end
end
section
mutual
variable{d:Nat}{H H':Hp}{c:Nat}{w:List Nat}
def Hn(h:HL c)(hw:c::w≠ [45]):(([[43],[45],[46,46,46]]:List (List Nat)).any λy=>decide (y=c::w))=false:=by
 have e1:decide (([43]:List Nat)=c::w)=false:=decide_eq_false λe=>by
  have:=(dC e).1
  cases h using cW with
  | inl h=>exact j8 h (by decide) this
  | inr h=>rw[h]at this;exact absurd this (by decide)
 have e2:decide (([45]:List Nat)=c::w)=false:=decide_eq_false λe=>hw e.symm;have e3:decide (([46,46,46]:List Nat)=c::w)=false:=decide_eq_false λe=>by
  have:=(dC e).1
  cases h using cW with
  | inl h=>exact j8 h (by decide) this
  | inr h=>rw[h]at this;exact absurd this (by decide)
 show(decide _ || (decide _ || (decide _ || false)))=false
 erw [e1,e2,e3];rfl
def Ui(h:HL c)(hw:c::w≠ [45])(hl:(c::w).length<=1000000):aQ (d+2) H 81 [.str (c::w)] (.bool false,H):=
 bz (F:=Sw) rfl rfl rfl (ij (cT rfl (congrArg some (Hn h hw))) (mw (iP (cT rfl (dF (λe=>nomatch e))) (uA (mx (ak (dD (ah rfl) aA (jb (i:=0) rfl hl)) aq) (Uj h)))) (fx aA)))
end
end
mutual
noncomputable abbrev FC:List Nat:= [65,66,67,68,69,70,71,72,73,74,75,76,77,78,79,80,81,82,83,84,85,86,87,88,89,90]
def zK:∀{s:List Nat} {c:Nat},(∀x∈s,x≠c)->gh c s=none
 | [],_,_=>rfl
 | x::r,c,h=>by
  show(match aX x c with | true=>some 0 | false=>(gh c r).map (· +1))=none
  erw [(show aX x c=false from gN.mpr λe=>h x bl (aW e)),(zK λy m=>h y (bO _ m))]
  rfl
end
section
mutual
variable{d:Nat}{H:Hp}
def Ic{c:Nat}(h:c<65):ue FC 4 [.str [c]] H=some (.int (-1),H):=by
 show some (AV.int (pX (gh c FC) 0),H)=_;have t:∀x∈FC,65<=x:=by decide
 have n:gh c FC=none:=zK λx m e=>by
  have:=t x m
  exact(CM [(aI 65,ai),(ai,az),(cO,aI 65)] aS this (pK e) h)
 erw [n]
 rfl
def uW{l0 l4 l5:Option AV}:∀(cs:List Nat) (us:List (List Nat)) (x2 x3:Option AV),(∀c∈cs,c<65)->us.length+cs.length<=1000000->
  ∃x2' x3',lO d [l0,some (.ref H.length),x2,x3,l4,l5] (H++ [.list (us.map .str)]) (.str cs) (.one 2) [(.aS (.v 3) (.meth (.lit (.str FC)) 4 [(.v 2)])),(.expr (.meth (.v 1) 0 [(.ife (.j .lt (.v 3) (.lit (.int 0))) (.v 2) (.idx (.lit (.str [97,98,99,100,101,102,103,104,105,106,107,108,109,110,111,112,113,114,115,116,117,118,119,120,121,122])) (.v 3)))]))] (.next,[l0,some (.ref H.length),x2',x3',l4,l5],H++ [.list ((us++cs.map λc=> [c]).map .str)])
 | [],us,x2,x3,_,_=>⟨x2,x3,by erw [mU,br];exact iH rfl⟩
 | c::cs,us,x2,x3,h,hu=>by
  obtain⟨x2',x3',e⟩:=uW cs (us++ [[c]]) (some (.str [c])) (some (.int (-1))) (λc m=>h c (bO _ m)) (by erw [ag];simp only[aJ,dX]at hu |-;exact(bF (aK (aK ai (eT (aI 0))) az) cY [(aK ai cO,cY)] aS hu));refine uj x2' x3' (fq rfl rfl (cL (oS aA rfl (bW rfl aq) (Ic (h c bl))) rfl (ux (ft (ah rfl) aV (eX (cT rfl rfl) (ah rfl)) aV (aN (by erw [aL];exact aj (bw _ _) hu))) bb)) ?_)
  erw [lF,(show us.map AV.str++ [.str [c]]=(us++ [[c]]).map .str from by erw [bc];rfl)]
  rw[aB]at e;exact e
def Uk{cs:List Nat}(h:∀c∈cs,c<65)(hl:cs.length<=1000000):∃H',aQ (d+1) H 78 [.str cs] (.str cs,H')/\Keep all H H':=by
 refine y5 (uW (d:=d) (H:=H) (l0:=some (.str cs)) (l4:=none) (l5:=none) cs [] none none h (by show 0+_<=_;exact(cA (aK (aI 0) ai) cY [(ai,cY)] aS hl))) λx2 x3 e=>?_;have j:=oV (d:=d) (ls:= [some (.str cs),some (.ref H.length),x2,x3,none,none]) (a:= .v 1) (ah rfl) (aV (H:=H) (c:= .list (([]++cs.map λc=> [c]).map .str))) (by erw [fN,aL];exact hl) (by erw [fN,pV];exact hl);rw[fN,pV]at j;rw[fN]at e;exact bI _ (bz (F:=Sy) rfl rfl rfl (cL (fK aq (aN (aY _))) rfl (aC (mN (ah rfl) rfl e) (fx j)))) Keep.app
end
end
section
mutual
variable{t w r:List Nat}{p i c:Nat}
def BU(h:t.drop p=w++r)(hi:w[i]? =some c):t[p+i]? =some c:=by
 erw [<- wO,h,dm (aU.mp hi).1];exact hi
def Mq(h:t.drop p=w++r):t[p+w.length]? =r[0]?:=by
 erw [<- wO,h,dg (ay _),mT];rfl
def nS(h:t.drop p=c::r):t[p]? =some c:=BU (w:= [c]) (i:=0) h rfl
def CY(h:t.drop p=w++r):t.drop (p+w.length)=r:=by erw [<- List.drop_drop,h,List.drop_left];rfl
def Ar(h:t.drop p=w++r):(t.take (p+w.length)).drop p=w:=by erw [List.drop_take,h,Nat.add_sub_cancel_left,List.take_left];rfl
end
end
mutual
def m7{b:Bool}(h:(!b)=true):b=false:=by induction b using aG <;> first | rfl | exact nomatch h
def dG{H:Hp}{a b:List Nat}(h:a≠b):iI H .eq (.str a) (.str b)=some false:=dF h
def gf{H:Hp}{a b:List Nat}(h:a=b):iI H .eq (.str a) (.str b)=some true:=dT h
abbrev ie(r:List Nat):Prop:= ∀c,r[0]? =some c->qc.contains c=true
abbrev sd(w:List Nat):Bool:=w.all λc=> !qc.contains c && !Ck.contains c
noncomputable abbrev vy:List Nat:= [115,121,109,98,111,108]
noncomputable abbrev Em:List Nat:= [110,117,109,98,101,114]
end
section
mutual
variable{d:Nat}{H au aP H':Hp}{l p:Nat}{t w r:List Nat}{v:AV}
def AR(L:Lx H l t p)(hl:t.length<=1000000)(h:t.drop p=w++r)(hs:ie r)(hw:sd w=true):aQ (d+1) H 90 [.ref l, .int p] (.int (p+w.length:Nat),H):=
 Ub L hl (λi hi=>by
  have e:w[i]? =some w[i]:=bq hi;have b:=ae.mp (aT.mp hw w[i] (List.getElem_mem hi));exact eH (w[i]) (BU h e) (m7 b.1) (m7 b.2)) λc e=>hs c ((Mq h).symm.trans e)
def Lx.keep(L:Lx H l t p)(K:Keep all H H'):Lx H' l t p:=K.at_ _ _ trivial L
def uy(L:Lx H l t p)(hl:t.length<=1000000)(h:t.drop p=w++r)(hs:ie r)(hw:sd w=true)(hne:w≠ [46])(hf:aQ (d+19) H 78 [.str w] (.str w,au)){ss:List S}{o:Fl×Ls×Hp}
  (k:gI (d+19) [some (.ref l),some (.int p),some (.int (p+w.length:Nat)),some (.str w),some (.str w),none,none] au (M0.body.drop 5) o):gI (d+19) [some (.ref l),none,none,none,none,none,none] H M0.body o:=
 cL (cC rfl L rfl rfl) rfl (cL (i5 rfl L rfl rfl rfl (ak (ah rfl) aq) (AR L hl h hs hw)) rfl (cL (jC (de (ah rfl) L rfl rfl) (ah rfl) (ah rfl) ((pB hl).trans (by erw [Ar h];rfl))) rfl (aC (cV (gF rfl (dy (ah rfl) aA (dG hne))) bb) (aC (iU (bj (ak (ah rfl) aq) hf) (eu rfl)) k))))
def Gq:(names.all λw=>sd w && !decide (w= [46]))=true:=by decide+kernel
def Rk(L:Lx H l t p)(hl:t.length<=1000000)(h:t.drop p=w++r)(hs:ie r)(hn:w∈names):∃k H',aQ (d+20) H 91 [.ref l] (.ref k,H')/\Tk H' k vy (.str w) p (p+w.length:Nat)/\Lx H' l t (p+w.length)/\Keep (·≠l) H H':=by
 have b:=ae.mp (aT.mp Gq w hn);refine aM (xI (H:=H) (D:=d+11) hn) λau e1 K1=>?_;refine aM (zU (H:=au) (D:=d+11) hn) λaP e2 K2=>?_;rw[show 8+(d+11)=d+19 from by exact dq ..]at e1 e2;have L2:=(L.keep K1).keep K2;refine fy (JX (d:=d+17) (w:=vy) (v:= .str w) (e:=p+w.length) L2) λk H' e3 T L3 K3=>?_;exact d4 k H' (bz (F:=M0) rfl rfl rfl (uy L hl h hs b.1 (of_decide_eq_false (m7 b.2)) e1 (ss:= []) (mw (mx (bW rfl aq) e2) (fx (i5 rfl L2 rfl rfl rfl (ak aA (ak (eX (gF rfl (de (ah rfl) L2 rfl rfl)) (ah rfl)) (ak (ah rfl) aq))) e3))))) T L3 ((K1.weak λzz zy=>trivial).trans ((K2.weak λzz zy=>trivial).trans K3))
def Ua{s:Int}(L:Lx H l t p)(h:aQ (d+1) H 76 [.int 53, .str w, .int 10] (v,H'))(hv:mF v=false):aQ (d+2) H 92 [.ref l, .str w, .int s] (v,H'):=
 bz (F:=Sp) rfl rfl rfl (cL (bj (ak (cC rfl L rfl rfl) (bW rfl (gS aq))) h) rfl (ij (cT rfl (congrArg some hv)) (fx (ah rfl))))
end
end
mutual
abbrev qR:Cell->Bool
 | .n c _=>([1,3,4,5,6,16,17]:List Nat).contains c
 | _=>false
abbrev Nw(n:Nat)(H:Hp)(es:List (List Nat×AV))(k:Nat):Prop:=(∀c,Hk H k c->n<=k\/qR c=true)/\∀i s,Hk H k (.n 1 [(12,i),(13, .str s)])->kB s es=some (.ref k)
abbrev Sub(es es':List (List Nat×AV)):Prop:= ∀s v,kB s es=some v->kB s es'=some v
def Sub.refl{es:List (List Nat×AV)}:Sub es es:=λzz zy h=>h
def Sub.trans{a b c:List (List Nat×AV)}(x:Sub a b)(y:Sub b c):Sub a c:=λs v h=>y s v (x s v h)
abbrev iD(n:Nat)(H:Hp)(ok:Nat->Prop):Prop:= ∀k c,Hk H k c->n<=k\/qR c=true->ok k
def gJ.move{n n':Nat}{H H':Hp}{es es':List (List Nat×AV)}{ok:Nat->Prop}{v:AV}{x:D}(r:gJ (Nw n H es) H v x)(K:Keep ok H H')(h:iD n H ok)(s:Sub es es')(hn:n'<=n):gJ (Nw n' H' es') H' v x:=by
 refine r.mono (λk c o e=>?_) x v;have e':=K.at_ k c (h k c e (o.1 c e)) e;refine⟨⟨λc' g=>?_,λi s' g=>?_⟩,e'⟩
 ·cases e'.symm.trans g
  exact(o.1 c e).imp (aj hn) id
 ·cases e'.symm.trans g
  exact s _ _ (o.2 i s' e)
def iD.lt{n:Nat}{H:Hp}:iD n H all:=λzz zy zx zw=>trivial
def iD.ne{n:Nat}{H:Hp}{c:Cell}(h:Hk H j c)(hj:j<n)(hc:qR c=false):iD n H (·≠j):=λk c' e o q=>by
 subst q;cases h.symm.trans e
 cases o using cW with
 | inl o=>exact absurd hj (Nat.not_lt_of_le o)
 | inr o=>rw[hc]at o;exact nomatch o
def iD.and{n:Nat}{H:Hp}{a b:Nat->Prop}(x:iD n H a)(y:iD n H b):iD n H (λk=>a k/\b k):=λk c e o=>⟨x k c e o,y k c e o⟩
def jY{n k:Nat}{H:Hp}{es:List (List Nat×AV)}{c:Cell}(h:Hk H k c)(hc:qR c=true)(h1:∀i s,c≠ .n 1 [(12,i),(13, .str s)]):Nw n H es k:=⟨λc' e=>by cases h.symm.trans e;exact .inr hc,λi s e=>absurd (af (h.symm.trans e)) (h1 i s)⟩
abbrev MT(w:List Nat)(x:D):Prop:= ∀{d:Nat} {H:Hp},∃v H',aQ (d+18) H 76 [.int 53, .str w, .int 10] (v,H')/\mF v=false/\Keep all H H'/\∀n es,gJ (Nw n H' es) H' v x
end
section
mutual
variable{d:Nat}{H au aP H':Hp}{l p:Nat}{t w r:List Nat}{v:AV}
def Rl{c:Nat}{x:D}(L:Lx H l t p)(hl:t.length<=1000000)(h:t.drop p=c::w++r)(hs:ie r)(hc:HL c)(hw:∀x∈c::w,x<65)(hw':sd (c::w)=true)(hm:c::w≠ [45])(hd:c::w≠ [46])(hw1:(c::w).length<=1000000)
  (hp:MT (c::w) x):∃k v H',aQ (d+20) H 91 [.ref l] (.ref k,H')/\Tk H' k Em v p (p+(c::w).length:Nat)/\Lx H' l t (p+(c::w).length)/\Keep (·≠l) H H'/\∀n es,gJ (Nw n H' es) H' v x:=by
 refine aM (Uk (d:=d+18) (H:=H) hw hw1) λau e1 K1=>?_;have L1:=L.keep K1;refine fy (hp (d:=d) (H:=au)) λv aP e2 hv K2 hr=>?_;have L2:=L1.keep K2;refine fy (JX (d:=d+17) (w:=Em) (v:=v) (e:=p+(c::w).length) L2) λk H' e3 T L3 K3=>?_;refine iR k v H' (bz (F:=M0) rfl rfl rfl (uy L hl h hs hw' hd e1 (ss:= []) (ij (mx (bW rfl aq) (Ui hc hm hw1)) (ij (uA (mx (ak (ah rfl) aq) (Uh hc hw1))) (fx (gD (ah rfl) L1 rfl rfl rfl (ak aA (ak (gD (ah rfl) L1 rfl rfl rfl (ak (ah rfl) (ak (ah rfl) aq)) (Ua L1 e2 hv)) (ak (ah rfl) aq))) e3)))))) T L3 ((K1.weak λzz zy=>trivial).trans ((K2.weak λzz zy=>trivial).trans K3)) (λn es=>(hr (max n (l+1)) es).move K3 (iD.ne L2 (ao (cJ l) (lV _ _)) rfl) .refl (iL _ _))
end
end
mutual
structure NumW(w:List Nat):Prop where
 hd:∃c w',w=c::w'/\HL c
 lt:∀x∈w,x<65
 wd:sd w=true
 nm:w≠ [45]
 nd:w≠ [46]
 le:w.length<=1000
abbrev Ld(c:Nat):Prop:=rt c\/c=45\/c=47
def Bo{c:Nat}(h:Ld c):c<65/\(!qc.contains c && !Ck.contains c)=true:=by
 have t:∀c<58,45<=c->c≠46->c<65/\(!qc.contains c && !Ck.contains c)=true:=by decide
 cases h using cW with
 | inl h=>exact t c h.2 (aj (by decide) h.1) (Ne.symm (j8 h (by decide)))
 | inr h=>cases h using cW with
  | inl h=>exact t c (by erw [h];decide) (by erw [h];decide) (by erw [h];decide)
  | inr h=>exact t c (by erw [h];decide) (by erw [h];decide) (by erw [h];decide)
def Bn{c:Nat}{w:List Nat}(h:∀x∈c::w,Ld x)(hc:HL c)(hn:c=45->w≠ [])(hl:(c::w).length<=1000):NumW (c::w):=
 ⟨⟨c,w,rfl,hc⟩,λx m=>(Bo (h x m)).1,aT.mpr λx m=>(Bo (h x m)).2,λe=>hn (dC e).1 (dC e).2,λe=>by
  have e1:=(dC e).1
  cases hc using cW with
  | inl hc=>exact j8 hc (by decide) e1.symm
  | inr hc=>rw[e1]at hc;exact absurd hc (by decide),hl⟩
def xG{i:Int}(hi:i.natAbs<=1000)(hu:∀c∈u,Ld c)(hl:u.length<=900):NumW (dH i++u):=by
 cases i using iu with
 | ofNat n=>
  refine vr (jO (show n<=1000 from hi)) λh1 h2 h3 h4=>?_;show NumW (bR n++u);cases hn:bR n with
  | nil=>exact absurd hn h2
  | cons c w=>
   rw[hn]at h1 h3;refine Bn (λx m=>?_) (.inl (h1 c bl)) (λe=>absurd e (Ne.symm (j8 (h1 c bl) (by decide)))) ?_
   ·exact(dz.mp (show x∈(c::w)++u from m)).elim (λm=> .inl (h1 x m)) (hu x)
   ·show((c::w)++u).length<=_
    erw [ag];exact(bF (aK bh az) (aI 1000) [(az,aI 900),(bh,aI 4)] aS hl h3)
 | negSucc n=>
  refine vr (jO (show n+1<=1000 from hi)) λh1 h2 h3 h4=>?_;show NumW (45::(bR (n+1)++u));refine Bn (λx m=>?_) (.inr rfl) (λzz e=>h2 (q7.mp e).1) ?_
  ·exact(aR.mp m).elim (λe=> .inr (.inl e)) λm=>(dz.mp m).elim (λm=> .inl (h1 x m)) (hu x)
  ·erw [aJ,ag];exact(bF (eT (aK ai az)) (aI 1000) [(az,aI 900),(ai,aI 4)] aS hl h3)
def zH:(m5.all λr=>match fQ r.1 r.2 with
 | c::w=>(decide (48<=c/\c<58) || decide (c=45)) && ((c::w).all λx=>decide (x<65)) && sd (c::w) && !decide (c::w= [45]) && !decide (c::w= [46]) && decide ((c::w).length<=1000)
 | []=>false)=true:=by decide+kernel
def uL{m e:Int}(h:(m,e)∈m5):NumW (fQ m e):=by
 have q:=aT.mp zH (m,e) h;have q':(match fQ m e with
 | c::w=>(decide (48<=c/\c<58) || decide (c=45)) && ((c::w).all λx=>decide (x<65)) && sd (c::w) && !decide (c::w= [45]) && !decide (c::w= [46]) && decide ((c::w).length<=1000)
 | []=>false)=true:=q
 cases hr:fQ m e with
 | nil=>rw[hr]at q';exact nomatch q'
 | cons c w=>
  rw[hr]at q';have q5:=ae.mp q';have q4:=ae.mp q5.1;have q3:=ae.mp q4.1;have q2:=ae.mp q3.1;have q1:=ae.mp q2.1;exact⟨⟨c,w,rfl,(jK.mp q1.1).imp (λh=>(of_decide_eq_true h:48<=c/\c<58)) of_decide_eq_true⟩,λx m=>of_decide_eq_true (aT.mp q1.2 x m),q2.2,of_decide_eq_false (m7 q3.2),of_decide_eq_false (m7 q4.2),of_decide_eq_true q5.2⟩
def Hm{i:Int}(hi:i.natAbs<=1000):MT (dH i) (.int i):=fun{d H}=>by
 refine aM (Ro (d:=d+13) (H:=H) hi) λH' e K=>?_;exact d4 _ H' e rfl K (λzz zy=>rfl)
def Cs{p:Int}{q:Nat}(hp:p.natAbs<=1000)(h2:2<=q)(hq:q<=1000)(hg:yX q p.natAbs=1):MT (dH p++47::bR q) (.ratio p q):=fun{d H}=>by
 refine dY (Rn (d:=d+13) (H:=H) hp h2 hq hg) λk H' e c K=>?_;exact d4 _ H' e rfl K (λzz zy=>(eH k rfl (jY c rfl (λzz zy h=>nomatch h)) c))
def Ek{m e:Int}(h:(m,e)∈m5):MT (fQ m e) (.real m e):=fun{d H}=>by
 refine dY (Rp (D:=d+6) (H:=H) h) λk H' g c K=>?_;rw[show 12+(d+6)=d+18 from by exact dq ..]at g;exact d4 _ H' g rfl K (λzz zy=>(eH k rfl (jY c rfl (λzz zy h=>nomatch h)) c))
def pD{p q:Int}(h2:2<=q)(hq:q<10)(hk:∃k:Int,-10<=k/\k<10/\p=q*k+1):∃n:Nat,q=n/\2<=n/\n<=1000/\p.natAbs<=1000/\yX n p.natAbs=1:=by
 have t:∀n:Nat,n<10->2<=n->∀j:Nat,j<20->((n:Int)*((j:Int)-10)+1).natAbs<=1000/\yX n ((n:Int)*((j:Int)-10)+1).natAbs=1:=by decide+kernel
 refine dt hk λk k1 k2 xq1=>?_;subst xq1;obtain⟨n,rfl⟩:∃n:Nat,q=n:=⟨q.toNat,by exact(jW (eC [_] [_] 0 (.iv 0) (.ic ai) (.hz (.iv 0) (.ic ai) .ho) aS (wV (bV (eC [_] [] 0 (.ik 0) (.iv 0) (.hz (.ik 2) (.iv 0) .ho) aS h2)))) (eC [_] [_] 0 (.ic ai) (.iv 0) (.hz (.ic ai) (.iv 0) .ho) aS (wW (bV (eC [_] [] 0 (.ik 0) (.iv 0) (.hz (.ik 2) (.iv 0) .ho) aS h2)))))⟩;obtain⟨j,hj⟩:∃j:Nat,k=(j:Int)-10:=⟨(k+10).toNat,by exact(jW (eC [_] [_] 0 (.iv 0) (.is (.ic ai) (.ik 10)) (.hz (.ip (.iv 0) (.ik 10)) (.ic ai) .ho) (by kernel_rfl) (wV (bV (eC [_] [] 0 (.ik 0) (.ip (.iv 0) (.ik 10)) (.hz (.ik (-10)) (.iv 0) .ho) (by kernel_rfl) k1)))) (eC [_] [_] 0 (.is (.ic ai) (.ik 10)) (.iv 0) (.hz (.ic ai) (.ip (.iv 0) (.ik 10)) .ho) (by kernel_rfl) (wW (bV (eC [_] [] 0 (.ik 0) (.ip (.iv 0) (.ik 10)) (.hz (.ik (-10)) (.iv 0) .ho) (by kernel_rfl) k1)))))⟩;have:=t n (by exact(bP.mp (eC [] [_] 0 (.ic bh) (.ic (aI 10)) (.hz (.ip (.ic ai) (.ik 1)) (.ik 10) .ho) aS hq))) (by exact(bP.mp (eC [] [_] 0 (.ic (aI 2)) (.ic ai) (.hz (.ik 2) (.ic ai) .ho) aS h2))) j (by exact(bP.mp (eC [_] [_] 0 (.ic bh) (.ic (aI 20)) (.hz (.is (.ic ai) (.ik 10)) (.iv 0) (.hz (.ip (.iv 0) (.ik 1)) (.ik 10) .ho)) aS (wV hj) k2)))
 erw [hj]
 exact QK n rfl (by exact(bP.mp (eC [] [_] 0 (.ic (aI 2)) (.ic ai) (.hz (.ik 2) (.ic ai) .ho) aS h2))) (by exact(bP.mp (eC [] [_] 0 (.ic ai) (.ic (aI 1000)) (.hz (.ip (.ic ai) (.ik 1)) (.ik 10) .ho) aS hq))) this.1 this.2
end
section
mutual
variable{d:Nat}{H au aP H':Hp}{l p:Nat}{t w r:List Nat}{v:AV}
def Rj{x:D}(L:Lx H l t p)(hl:t.length<=1000000)(h:t.drop p=w++r)(hs:ie r)(N:NumW w)(hp:MT w x):∃k v H',aQ (d+20) H 91 [.ref l] (.ref k,H')/\Tk H' k Em v p (p+w.length:Nat)/\Lx H' l t (p+w.length)/\Keep (·≠l) H H'/\∀n es,gJ (Nw n H' es) H' v x:=by
 obtain⟨xq2,h1,h2,h3,h4,h5⟩:=N;refine gz xq2 λc w' xq3 hc=>?_;subst xq3;exact Rl L hl h hs hc h1 h2 h3 h4 (aj h5 (ab rfl)) hp
end
end
mutual
abbrev At(t:List Nat)(p:Nat)(r:List Nat):Prop:=t.drop p=r/\p<=t.length
end
section
mutual
variable{t w r:List Nat}{p c:Nat}
def At.len(h:At t p r):p+r.length=t.length:=by
 have q:=congrArg jf h.1;rw[d7]at q
 erw [<- q]
 exact Nat.add_sub_cancel' h.2
def At.app(h:At t p (w++r)):At t (p+w.length) r:=⟨CY h.1,by have:=h.len;rw[ag]at this;exact(gV (aK ai az) bH [(aK ai (aK az cQ),bH)] aS (pK this))⟩
def At.cons(h:At t p (c::r)):At t (p+1) r:=At.app (w:= [c]) h
def At.nil(h:At t p []):p=t.length:=h.len
def At.lt(h:At t p (c::r)):p<t.length:=(aU.mp (nS h.1)).1
def Bf{s:List Nat}:∀{u:List Nat},(∀x∈u,x≠c)->gh c (u++c::s)=some u.length
 | [],_=>by
  show(match aX c c with | true=>some 0 | false=>_)=_
  erw [(show aX c c=true from fW c)];rfl
 | x::u,h=>by
  show(match aX x c with | true=>some 0 | false=>(gh c (u++c::s)).map (· +1))=_
  erw [(show aX x c=false from gN.mpr λe=>h x bl (aW e)),(Bf (u:=u) λy m=>h y (bO _ m))]
  rfl
end
end
mutual
noncomputable abbrev nX:List Nat:= [32,10,9,13,12]
class inductive Sk:List Nat->List Nat->Prop
 | blank {c:Nat} {s r:List Nat}:nX.contains c=true->c≠59->Sk s r->Sk (c::s) r
 | line {u s r:List Nat}:(∀x∈u,x≠10)->Sk (10::s) r->Sk (59::(u++10::s)) r
 | last {u:List Nat}:(∀x∈u,x≠10)->Sk (59::u) []
 | stop {c:Nat} {s:List Nat}:nX.contains c=false->c≠59->Sk (c::s) (c::s)
 | nil:Sk [] []
noncomputable abbrev A1:List S:= [(.aS (.v 1) (.idx (.aT (.v 0) 13) (.aT (.v 0) 26))),(.ite (.j .eq (.v 1) (.lit (.str [59]))) [(.aS (.v 2) (.meth (.aT (.v 0) 13) 4 [(.lit (.str [10])),(.aT (.v 0) 26)])),(.aS (.aT (.v 0) 26) (.ife (.j .lt (.v 2) (.lit (.int 0))) (.bi .len [(.aT (.v 0) 13)]) (.v 2)))] [(.ite (.j .isin (.v 1) (.lit (.str nX))) [(.aS (.aT (.v 0) 26) (.o .add (.aT (.v 0) 26) (.lit (.int 1))))] [.retn])])]
noncomputable abbrev DV:E:= .j .lt (.aT (.v 0) 26) (.bi .len [(.aT (.v 0) 13)])
end
section
mutual
variable{d:Nat}{H H':Hp}{l p:Nat}{t s r u:List Nat}{c:Nat}{x1 x2:Option AV}
def Lx.set{q:Nat}(L:Lx H l t p):Lx (H.set l (.n 21 [(13, .str t),(42, .int 53),(26, .int q),(43, .bool true)])) l t q:=cP (bx L)
def i9(L:Lx H l t p)(hl:t.length<=1000000){ls:Ls}(h0:ls[0]? =some (some (.ref l))):Re d ls H (.bi .len [(.aT (.v 0) 13)]) (.int t.length,H):=eI (ak (de (ah h0) L rfl rfl) aq) (len_str hl)
def vJ(L:Lx H l t p)(hl:t.length<=1000000)(a:At t p (c::s)):Rt d [some (.ref l),x1,x2,none,none] H DV (true,H):=gO (cC rfl L rfl rfl) (i9 L hl rfl) (dT (fX.mpr a.lt))
def DU(L:Lx H l t p)(hl:t.length<=1000000)(a:At t p []):Rt d [some (.ref l),x1,x2,none,none] H DV (false,H):=gO (cC rfl L rfl rfl) (i9 L hl rfl) (dF (by erw [a.nil];exact o7 _))
def zi(L:Lx H l t p)(hl:t.length<=1000000)(a:At t p (c::s)):Re d [some (.ref l),x1,x2,none,none] H (.idx (.aT (.v 0) 13) (.aT (.v 0) 26)) (.str [c],H):=dD (cC rfl L rfl rfl) (cC rfl L rfl rfl) (jb (nS a.1) hl)
def KG(L:Lx H l t p)(hl:t.length<=1000000)(a:At t p (c::s))(hc:nX.contains c=true)(hn:c≠59):gI d [some (.ref l),x1,x2,none,none] H A1 (.next,[some (.ref l),some (.str [c]),x2,none,none],H.set l (.n 21 [(13, .str t),(42, .int 53),(26, .int (p+1:Nat)),(43, .bool true)])):=
 cL (zi L hl a) rfl (aC (cV (cT rfl (dG λe=>hn (dC e).1)) (aC (ff (cT rfl (jM hc)) (lR (bT (cC rfl L rfl rfl) aA rfl) (jG (ah rfl) L rfl rfl) bb)) bb)) bb)
def KF(L:Lx H l t p)(hl:t.length<=1000000)(a:At t p (c::s))(hc:nX.contains c=false)(hn:c≠59):gI d [some (.ref l),x1,x2,none,none] H A1 (.ret .none,[some (.ref l),some (.str [c]),x2,none,none],H):=
 cL (zi L hl a) rfl (R4 (cT rfl (dG λe=>hn (dC e).1)) (R4 (gF rfl (dy (ah rfl) aA (jM hc))) (eQ KI)))
def DT(L:Lx H l t p)(hl:t.length<=1000000)(a:At t p (59::u)){z q:Int}(hz:pX (gh 10 (59::u)) p=z)(hq:(z<0/\q=t.length)\/(¬ z<0/\q=z)):gI d [some (.ref l),x1,x2,none,none] H A1 (.next,[some (.ref l),some (.str [59]),some (.int z),none,none],H.set l (.n 21 [(13, .str t),(42, .int 53),(26, .int q),(43, .bool true)])):=
 cL (zi L hl a) rfl (aC (ff (cT rfl (gf rfl)) (cL (oS (cC rfl L rfl rfl) rfl (gS (ak (de (ah rfl) L rfl rfl) aq)) (show some (AV.int (pX (gh 10 (t.drop p)) p),H)=_ by erw [a.1,hz];rfl)) rfl (lR (show Re d [some (.ref l),some (.str [59]),some (.int z),none,none] H _ (.int q,H)from by
  cases hq using cW with
  | inl h=>erw [h.2];exact eX (gF rfl (dy (ah rfl) aA (dT h.1))) (i9 L hl rfl)
  | inr h=>erw [h.2];exact fz (gF rfl (dy (ah rfl) aA (dF h.1))) (ah rfl)) (jG (ah rfl) L rfl rfl) bb))) bb)
set_option tactic.hygienic true in
theorem Ce(hl:t.length<=1000000)(k:Sk s r):∀{H:Hp} {p:Nat} {x1 x2:Option AV},Lx H l t p->At t p s->∃fl ls' H' q,Rs d [some (.ref l),x1,x2,none,none] H (.while DV A1) (fl,ls',H')/\(fl= .next\/fl= .ret .none)/\Lx H' l t q/\At t q r/\Keep (·≠l) H H':=by
 induction k with
 | blank hc hn k ih=>
  intro H p x1 x2 L a;obtain⟨fl,ls',H',q,e,hf,L',a',K⟩:=ih L.set a.cons;exact tB fl ls' H' q (eR (vJ L hl a) (KG L hl a hc hn) e) hf L' a' ((Keep.set λo=>o rfl).trans K)
 | line hu k ih=>
  rename_i u s r
  intro H p x1 x2 L a;have f:pX (gh 10 (59::(u++10::s))) p=((p+(u.length+1):Nat):Int):=by
   erw [(show gh 10 (59::(u++10::s))=_ from Bf (s:=s) (c:=10) (u:=59::u) (λx m=>(aR.mp m).elim (λe=>by erw [e];decide) (hu x)))];rfl
  obtain⟨fl,ls',H',q,e,hf,L',a',K⟩:=ih (L.set (q:=p+(u.length+1))) (At.app (w:=59::u) a);exact tB fl ls' H' q (eR (vJ L hl a) (DT L hl a f (.inr ⟨jg.mpr (fE _),rfl⟩)) e) hf L' a' ((Keep.set λo=>o rfl).trans K)
 | last hu=>
  rename_i u
  intro H p x1 x2 L a;have f:pX (gh 10 (59::u)) p= -1:=by
   erw [(zK (λx m=>(aR.mp m).elim (λe=>by erw [e];decide) (hu x)))];rfl
  have a':At t t.length []:=⟨List.drop_length,ay _⟩;exact tB _ _ _ _ (eR (vJ L hl a) (DT L hl a f (.inl ⟨by decide,rfl⟩)) (eS (DU (L.set (q:=t.length)) hl a'))) (.inl rfl) L.set a' (Keep.set λo=>o rfl)
 | stop hc hn=>
  intro H p x1 x2 L a;exact tB _ _ _ _ (l9 (vJ L hl a) (KF L hl a hc hn)) (.inr rfl) L a .refl
 | nil=>
  intro H p x1 x2 L a;exact tB _ _ _ _ (eS (DU L hl a)) (.inl rfl) L a .refl
def Ud(hl:t.length<=1000000)(k:Sk s r)(L:Lx H l t p)(a:At t p s):∃H' q,aQ (d+1) H 86 [.ref l] (.none,H')/\Lx H' l t q/\At t q r/\Keep (·≠l) H H':=by
 refine w3 (Ce (d:=d) (x1:=none) (x2:=none) hl k L a) λfl ls' H' q e hf L' a' K=>?_;refine d4 H' q ?_ L' a' K
 cases hf using cW with
 | inl hf=>rw[hf]at e;exact fB (F:=Q4) rfl rfl rfl (aC e bb)
 | inr hf=>rw[hf]at e;exact bz (F:=Q4) rfl rfl rfl (eQ e)
end
end
mutual
noncomputable abbrev Qv:Type:=Hp->Hp->AV->Prop
abbrev J8:Qv:=λzz zy zx=>True
abbrev Mr(x:D):Qv:=λH H' v=> ∀n es,n<=H.length->gJ (Nw n H' es) H' v x
abbrev Tz(s:List Nat):Qv:=λzz zy v=>v= .str s
abbrev Tok(s:List Nat)(w:List Nat)(Q:Qv)(r:List Nat):Prop:= ∀{d:Nat} {H:Hp} {l q:Nat} {t:List Nat},Lx H l t q->t.length<=1000000->At t q s->∃k v a e q' ls' H',gI (d+21) [some (.ref l),none,none,none,none,none] H (JN.body.drop 1) (.ret (.ref k),ls',H')/\Tk H' k w v a e/\Lx H' l t q'/\At t q' r/\Keep (·≠l) H H'/\Q H H' v
end
section
mutual
variable{d:Nat}{H H':Hp}{l p q:Nat}{t s s' r u w:List Nat}{c:Nat}{Q:Qv}
def GD:Tok [] [101,110,100] J8 []:=fun{d H l q t} L hl a=>(yg _ _ q q q _ _ (cL (cC rfl L rfl rfl) rfl (mw (gO (ah rfl) (i9 L hl rfl) (dT (congrArg Int.ofNat a.nil))) (fx (gH (ak aA (ak aA (ak (ah rfl) (ak (ah rfl) aq)))) rfl Tg)))) aV (bD L) a Keep.app trivial)
def Ji{o:Fl×Ls×Hp}(L:Lx H l t q)(hl:t.length<=1000000)(a:At t q (c::s))(k:gI d [some (.ref l),some (.int q),some (.str [c]),none,none,none] H (JN.body.drop 4) o):gI d [some (.ref l),none,none,none,none,none] H (JN.body.drop 1) o:=
 cL (cC rfl L rfl rfl) rfl (ij (gO (ah rfl) (i9 L hl rfl) (dF λe=>absurd (o6 e) (aE a.lt))) (cL (dD (de (ah rfl) L rfl rfl) (ah rfl) (jb (nS a.1) hl)) rfl k))
def lZ(hc:([40,41,39,96]:List Nat).contains c=true):Tok (c::r) [c] J8 r:=fun{d H l q t} L hl a=>by
 refine fy (JX (d:=d+19) (w:= [c]) (v:= .none) (e:=q+1) L) λk H' e3 T L3 K3=>?_;exact yg k _ _ _ _ _ _ (Ji L hl a (mw (cT rfl (jM hc)) (fx (i5 rfl L rfl rfl rfl (ak (ah rfl) (ak aA (ak (bT (ah rfl) aA rfl) aq))) e3)))) T L3 a.cons K3 trivial
abbrev Je(c:Nat):Bool:= !([40,41,39,96]:List Nat).contains c && !decide (([c]:List Nat)= [44])
def DF{o:Fl×Ls×Hp}(L:Lx H l t q)(hl:t.length<=1000000)(a:At t q (c::s))(hc:Je c=true)(k:gI d [some (.ref l),some (.int q),some (.str [c]),none,none,none] H (JN.body.drop 6) o):gI d [some (.ref l),none,none,none,none,none] H (JN.body.drop 1) o:=by
 have h:=ae.mp hc;exact Ji L hl a (ij (cT rfl (jM (m7 h.1))) (ij (cT rfl (dG (of_decide_eq_false (m7 h.2)))) k))
abbrev AS(c:Nat):Bool:=Je c && !decide (([c]:List Nat)= [34]) && !decide (([c]:List Nat)= [35])
def DE{v:AV}(L:Lx H l t q)(hl:t.length<=1000000)(a:At t q (c::s))(hc:AS c=true)(k:aQ d H 91 [.ref l] (v,H')):∃ls',gI d [some (.ref l),none,none,none,none,none] H (JN.body.drop 1) (.ret v,ls',H'):=by
 have h:=ae.mp hc;have h1:=ae.mp h.1;exact⟨_,DF L hl a h1.1 (ij (cT rfl (dG (of_decide_eq_false (m7 h1.2)))) (ij (cT rfl (dG (of_decide_eq_false (m7 h.2)))) (fx (gD (ah rfl) L rfl rfl rfl aq k))))⟩
def Ht(h:HL c):AS c=true:=by
 have t:∀c<58,45<=c->c≠46->c≠47->AS c=true:=by decide+kernel
 cases h using cW with
 | inl h=>exact t c h.2 (aj (by decide) h.1) (Ne.symm (j8 h (by decide))) (Ne.symm (j8 h (by decide)))
 | inr h=>exact t c (by erw [h];decide) (by erw [h];decide) (by erw [h];decide) (by erw [h];decide)
abbrev headD:List Nat->Bool
 | c::_=>AS c
 | []=>false
def Gr:(names.all headD)=true:=by decide+kernel
def DB(hn:w∈names)(hs:ie r):Tok (w++r) vy (Tz w) r:=fun{d H l q t} L hl a=>by
 refine fy (Rk (d:=d+1) L hl a.1 hs hn) λk H' e T L' K=>?_;have hw:headD w=true:=aT.mp Gr w hn
 cases w using aw with
 | nil=>exact nomatch hw
 | cons c w=>
  obtain⟨ls',e'⟩:=DE L hl a hw e;exact yg k _ _ _ _ ls' H' e' T L' a.app K rfl
def GC{x:D}(N:NumW w)(hp:MT w x)(hs:ie r):Tok (w++r) Em (Mr x) r:=fun{d H l q t} L hl a=>by
 refine jX (Rj (d:=d+1) L hl a.1 hs N hp) λk v H' e T L' K rp=>?_;obtain⟨xq1,_⟩:=N;refine gz xq1 λc w' xq2 hc=>?_;subst xq2;obtain⟨ls',e'⟩:=DE L hl a (Ht hc) e;exact yg k _ _ _ _ ls' H' e' T L' a.app K (λn es zz=>rp n es)
def Rm(L:Lx H l t p)(hl:t.length<=1000000)(h:t.drop p= [46]++r)(hs:ie r):∃k H',aQ (d+20) H 91 [.ref l] (.ref k,H')/\Tk H' k [46] .none p (p+1:Nat)/\Lx H' l t (p+1)/\Keep (·≠l) H H':=by
 refine fy (JX (d:=d+17) (w:= [46]) (v:= .none) (e:=p+1) L) λk H' e3 T L3 K3=>?_;exact d4 k H' (bz (F:=M0) rfl rfl rfl (cL (cC rfl L rfl rfl) rfl (cL (i5 rfl L rfl rfl rfl (ak (ah rfl) aq) (AR (w:= [46]) L hl h hs rfl)) rfl (cL (jC (de (ah rfl) L rfl rfl) (ah rfl) (ah rfl) ((pB hl).trans (by erw [Ar h];rfl))) rfl (eQ (ff (gF rfl (dy (ah rfl) aA (gf rfl))) (eQ (kL (gD (ah rfl) L rfl rfl rfl (ak aA (ak aA (ak (ah rfl) aq))) e3))))))))) T L3 K3
def GE(hs:ie r):Tok (46::r) [46] J8 r:=fun{d H l q t} L hl a=>by
 refine fy (Rm (d:=d+1) L hl a.1 hs) λk H' e T L' K=>?_;obtain⟨ls',e'⟩:=DE L hl a rfl e;exact yg k _ _ _ _ ls' H' e' T L' a.cons K trivial
def Uc(T:Tok s' w Q r)(k:Sk s s')(L:Lx H l t p)(hl:t.length<=1000000)(a:At t p s):∃k v a e q' bU H',aQ (d+22) H 88 [.ref l] (.ref k,H')/\Tk H' k w v a e/\Lx H' l t q'/\At t q' r/\Keep (·≠l) H H'/\H.length<=bU.length/\Q bU H' v:=by
 refine fy (Ud (d:=d+20) hl k L a) λau q e1 L1 a1 K1=>?_;refine Nd (T (d:=d) L1 hl a1) λk v b e q' ls' H' e2 T2 L2 a2 K2 h=>?_;exact Og k v b e q' au H' (bz (F:=JN) rfl rfl rfl (ux (i5 rfl L rfl rfl rfl aq e1) e2)) T2 L2 a2 (K1.trans K2) K1.len h
end
end
mutual
noncomputable abbrev Mf:List Nat:= [98,111,111,108,101,97,110]
noncomputable abbrev Fy:List Nat:= [99,104,97,114]
def Dq:(([40,116,102,92]:List Nat).all λc=>yG 8 [] 78 [.str [c]] (qS [c]))=true:=by decide+kernel
def Gs:yG 8 [] 83 [.str [115,112,97,99,101]] (qS [32])=true:=by decide+kernel
def Kk:yG 8 [] 83 [.str [110,101,119,108,105,110,101]] (qS [10])=true:=by decide+kernel
end
section
mutual
variable{d:Nat}{H H':Hp}{l p q:Nat}{t s s' r u w:List Nat}{c:Nat}{Q:Qv}
def zD(h:c∈([40,116,102,92]:List Nat)):∃H',aQ (d+20) H 78 [.str [c]] (.str [c],H')/\Keep all H H':=by
 refine dY (lK (H:=H) (D:=d+12) (aT.mp Dq c h) rfl) λv H' hp e K=>?_;rw[show 8+(d+12)=d+20 from by exact dq ..]at e;cases uI hp
 exact bI H' e K
def KH(hn:w= [115,112,97,99,101]/\c=32\/w= [110,101,119,108,105,110,101]/\c=10):∃H',aQ (d+19) H 83 [.str w] (.str [c],H')/\Keep all H H':=by
 have k:∃v H',qS [c] v=true/\aQ (8+(d+11)) H 83 [.str w] (sh H.length v,H')/\Keep all H H':=by
  cases hn using cW with
  | inl h=>erw [h.1,h.2];exact lK Gs rfl
  | inr h=>erw [h.1,h.2];exact lK Kk rfl
 refine dY k λv H' hp e K=>?_;rw[show 8+(d+11)=d+19 from by exact dq ..]at e;cases uI hp
 exact bI H' e K
def qw{j:Nat}(hl:t.length<=1000000)(a:At t p (w++r))(hj:j=p+w.length):iw (.str t) (some (.int p)) (some (.int j)) H=some (.str w,H):=by
 erw [pB hl,hj,Ar a.1];rfl
def kA{a b:Int}(h:a≠b):iI H .eq (.int a) (.int b)=some false:=dF h
def Hq{a b:Nat}(h:a≠b):iI H .eq (.int a) (.int b)=some false:=dF λe=>h (o6 e)
def DZ{au:Hp}{o:Fl×Ls×Hp}(L:Lx H l t q)(hl:t.length<=1000000)(a:At t q (35::c::s))(e1:aQ (d+20) H 78 [.str [c]] (.str [c],au))(k:gI (d+20) [some (.ref l),some (.int q),some (.str [c]),none,none,none] au (MZ.body.drop 2) o):gI (d+20) [some (.ref l),none,none,none,none,none] H MZ.body o:=
 cL (cC rfl L rfl rfl) rfl (cL (bj (ak (jC (cC rfl L rfl rfl) (bT (ah rfl) aA rfl) (bT (ah rfl) aA rfl) (qw (p:=q+1) (w:= [c]) (j:=q+2) hl a.cons rfl)) aq) e1) rfl k)
def vv(h:∀{d:Nat} {H:Hp} {l q:Nat} {t:List Nat},Lx H l t q->t.length<=1000000->At t q (35::s)->∃k v a e q' H',aQ (d+21) H 93 [.ref l] (.ref k,H')/\Tk H' k w v a e/\Lx H' l t q'/\At t q' r/\Keep (·≠l) H H'/\Q H H' v):Tok (35::s) w Q r:=fun{d H l q t} L hl a=>by
 refine Qb (h (d:=d) L hl a) λk v b e q' H' e1 T L' a' K hq=>?_;exact yg k v b e q' _ H' (DF L hl a rfl (ij (cT rfl (dG (λe=>nomatch e))) (mw (cT rfl (gf rfl)) (fx (gD (ah rfl) L rfl rfl rfl aq e1))))) T L' a' K hq
def GB:Tok (35::40::r) [35,40] J8 r:=vv fun{d H l q t} L hl a=>by
 refine aM (zD (d:=d) (H:=H) (c:=40) (by decide)) λau e1 K1=>?_;have L1:=L.keep K1;refine fy (JX (d:=d+18) (w:= [35,40]) (v:= .none) (e:=q+2) L1) λk H' e3 T L3 K3=>?_;exact LC k _ _ _ _ H' (bz (F:=MZ) rfl rfl rfl (DZ L hl a e1 (mw (cT rfl (gf rfl)) (fx (i5 rfl L1 rfl rfl rfl (ak aA (ak aA (ak (bT (ah rfl) aA rfl) aq))) e3))))) T L3 a.cons.cons ((K1.weak λzz zy=>trivial).trans K3) trivial
def DD{b:Bool}(hc:c=cond b 116 102):Tok (35::c::r) Mf (Mr (.bool b)) r:=vv fun{d H l q t} L hl a=>by
 refine aM (zD (d:=d) (H:=H) (c:=c) (by erw [hc];induction b using aG <;> decide)) λau e1 K1=>?_;have L1:=L.keep K1;refine fy (JX (d:=d+18) (w:=Mf) (v:= .bool b) (e:=q+2) L1) λk H' e3 T L3 K3=>?_;have t1:iI au .eq (.str [c]) (.str [116])=some b:=by erw [hc];induction b using aG <;> rfl
 have t2:iI au .eq (.str [c]) (.str [102])=some (!b):=by erw [hc];induction b using aG <;> rfl
 have t0:Rt (d+20) [some (.ref l),some (.int q),some (.str [c]),none,none,none] au (.or (.j .eq (.v 2) (.lit (.str [116]))) (.j .eq (.v 2) (.lit (.str [102])))) (true,au):=by
  cases b using aG with
  | true=>exact zc (cT rfl t1)
  | false=>exact iP (cT rfl t1) (cT rfl t2)
 exact LC k _ _ _ _ H' (bz (F:=MZ) rfl rfl rfl (DZ L hl a e1 (ij (cT rfl (dG λe=>by rw[hc]at e;induction b using aG <;> exact nomatch e)) (mw t0 (fx (gD (ah rfl) L1 rfl rfl rfl (ak aA (ak (dy (ah rfl) aA t1) (ak (bT (ah rfl) aA rfl) aq))) e3)))))) T L3 a.cons.cons ((K1.weak λzz zy=>trivial).trans K3) (λzz zy zx=>rfl)
noncomputable abbrev Qj:S:=(.while (.and (.j .lt (.v 2) (.bi .len [(.aT (.v 0) 13)])) (.j .notin (.idx (.aT (.v 0) 13) (.v 2)) (.lit (.str qc)))) [(.aS (.v 2) (.o .add (.v 2) (.lit (.int 1))))])
def xn{x1:Option AV}(L:Lx H l t p)(hl:t.length<=1000000)(hr:ie r):∀(w:List Nat) (a:Nat),(∀c∈w,qc.contains c=false)->At t a (w++r)->
  Rs d [some (.ref l),x1,some (.int a),none,none,none,none] H Qj (.next,[some (.ref l),x1,some (.int (a+w.length:Nat)),none,none,none,none],H)
 | [],a,_,ha=>by
  have ln:Re d [some (.ref l),x1,some (.int a),none,none,none,none] H (.bi .len [(.aT (.v 0) 13)]) (.int t.length,H):=i9 L hl rfl
  cases r using aw with
  | nil=>exact eS (pk (gO (ah rfl) ln (dF (by erw [At.nil ha];exact o7 _))))
  | cons c r=>exact eS (mz (gO (ah rfl) ln (dT (fX.mpr (At.lt ha)))) (gO (dD (cC rfl L rfl rfl) (ah rfl) (jb (nS ha.1) hl)) aA (pI (hr c rfl))))
 | c::w,a,hw,ha=>by
  have ln:Re d [some (.ref l),x1,some (.int a),none,none,none,none] H (.bi .len [(.aT (.v 0) 13)]) (.int t.length,H):=i9 L hl rfl;have e:=xn (x1:=x1) L hl hr w (a+1) (λc m=>hw c (bO _ m)) (At.cons ha);rw[f9,dq 1 w.length]at e;exact eR (mz (gO (ah rfl) ln (dT (fX.mpr (At.lt ha)))) (gO (dD (cC rfl L rfl rfl) (ah rfl) (jb (nS ha.1) hl)) aA (pI (hw c bl)))) (cL (bT (ah rfl) aA rfl) rfl bb) e
def Ts{v:AV}:aQ (d+1) (H++ [.n 4 []]) 11 [.ref H.length,v] (.none,H++ [.n 4 [(18,v)]]):=fB (F:=S6) rfl rfl rfl (aC (dU rfl (ah rfl) rfl rfl) bb)
def T9{c0:Nat}{w:List Nat}(L:Lx H l t q)(hl:t.length<=1000000)(a:At t q (35::92::c0::w++r))(hr:ie r)(hw:∀c∈w,qc.contains c=false)(hn:(w= []/\c=c0)\/(w≠ []/\(c0::w= [115,112,97,99,101]/\c=32\/c0::w= [110,101,119,108,105,110,101]/\c=10))):∃k j e H',aQ (d+20) H 94 [.ref l] (.ref k,H')/\Tk H' k Fy (.ref j) q e/\Lx H' l t (q+3+w.length)/\Keep (·≠l) H H'/\Hk H' j (.n 4 [(18, .int c)]):=by
 have a3:At t (q+3) (w++r):=a.cons.cons.cons;have a2:At t (q+2) ((c0::w)++r):=a.cons.cons;have hw1:(c0::w).length<=1000000:=aj (by have:=a2.len;rw[ag]at this;exact(gV bh az [((aK (aK bH (aI 2)) (aK bh cQ)),az)] aS (pK this))) hl;have k:∃au,Re (d+19) [some (.ref l),some (.int q),some (.int (q+3+w.length:Nat)),some (.str (c0::w)),none,none,none] H (.ife (.j .eq (.bi .len [(.v 3)]) (.lit (.int 1))) (.v 3) (.call 83 [(.v 3)])) (.str [c],au)/\Keep all H au:=by
  cases hn using cW with
  | inl h=>
   obtain⟨xq1,xq2⟩:=h;subst xq1;subst xq2
   exact bI H (eX (gO (eI (bW rfl aq) (len_str hw1)) aA (dT rfl)) (ah rfl)) .refl
  | inr h=>
   refine aM (KH (d:=d) (H:=H) h.2) λau e K=>?_
   exact bI au (fz (gO (eI (bW rfl aq) (len_str hw1)) aA (dF (λe=>h.1 (B0 (q6 (o6 e)))))) (bj (bW rfl aq) e)) K
 refine aM k λau e1 K1=>?_;have L1:=L.keep K1;have L2:Lx (au++ [.n 4 [(18, .int c)]]) l t q:=bD L1;refine fy (JX (d:=d+17) (w:=Fy) (v:= .ref au.length) (e:=q+3+w.length) L2) λk H' e3 T L3 K3=>?_;refine tB k _ _ H' (bz (F:=So) rfl rfl rfl (cL (cC rfl L rfl rfl) rfl (ij (gO (bT (ah rfl) aA rfl) (i9 L hl rfl) (Hq (a:=q+2) (aE (At.lt a2)))) (cL (bT (ah rfl) aA rfl) rfl (aC (xn L hl hr w (q+3) hw a3) (aC (iU (jC (de (ah rfl) L rfl rfl) (bT (ah rfl) aA rfl) (ah rfl) (qw (p:=q+2) (w:=c0::w) (j:=q+3+w.length) hl a2 (by erw [aJ];exact(bJ (bF (aK (aK ai (aI 3)) az) (aK (aK ai (aI 2)) cO) [] aS) (bF (aK (aK ai (aI 2)) cO) (aK (aK ai (aI 3)) az) [] aS))))) (eu rfl)) (aC (iU e1 (eu rfl)) (aC (cV (gF rfl (dy (ah rfl) aA rfl)) bb) (eQ (kL (gD (ah rfl) L1 rfl rfl rfl (ak aA (ak (gH (ak (eI (ak (ah rfl) aq) rfl) aq) rfl Ts) (ak (ah rfl) aq))) e3))))))))))) T L3 ?_ ?_
 ·exact(K1.weak λzz zy=>trivial).trans (Keep.app.trans K3)
 ·exact K3.at_ _ _ (λe=>ba aV L2 (λh=>nomatch h) e) aV
def DC(hr:ie r):Tok (g9 c++r) Fy (Mr (.char c)) r:=by
 have go:∀c0 w,g9 c=35::92::c0::w->(∀c∈w,qc.contains c=false)->((w= []/\c=c0)\/(w≠ []/\(c0::w= [115,112,97,99,101]/\c=32\/c0::w= [110,101,119,108,105,110,101]/\c=10)))->Tok (g9 c++r) Fy (Mr (.char c)) r:=by
  intro c0 w hs hw hn
  rw[hs]
  exact vv fun{d H l q t} L hl a=>by
   refine aM (zD (d:=d) (H:=H) (c:=92) (by decide)) λau e1 K1=>?_
   have L1:=L.keep K1
   refine w3 (T9 (d:=d) L1 hl a hr hw hn) λk j e H' e3 T L3 K3 hj=>?_
   refine LC k _ _ _ _ H' (bz (F:=MZ) rfl rfl rfl (DZ L hl a e1 (ij (cT rfl (dG (λe=>nomatch e))) (ij (iP (cT rfl (dG (λe=>nomatch e))) (cT rfl (dG (λe=>nomatch e)))) (mw (gF rfl (dy (ah rfl) aA (gf rfl))) (eQ (kL (gD (ah rfl) L1 rfl rfl rfl aq e3)))))))) T L3 ?_ ((K1.weak λzz zy=>trivial).trans K3) (λn es zz=>(eH j rfl (jY hj rfl (λzz zy h=>nomatch h)) hj))
   have:=At.app (w:=35::92::c0::w) a
   rw[show q+(35::92::c0::w).length=q+3+w.length from by erw [aJ,aJ,aJ];exact(bJ (bF (aK ai (eT (eT cO))) (aK (aK ai (aI 3)) az) [] aS) (bF (aK (aK ai (aI 3)) az) (aK ai (eT (eT cO))) [] aS))]at this
   exact this
 rcases Decidable.em (c=32)with h1 | h1
 ·exact fun{d H l q t}=>go 115 [112,97,99,101] (by erw [h1];rfl) (by decide) (.inr ⟨by decide, .inl ⟨rfl,h1⟩⟩)
 ·rcases Decidable.em (c=10)with h2 | h2
  ·exact fun{d H l q t}=>go 110 [101,119,108,105,110,101] (by erw [h2];rfl) (by decide) (.inr ⟨by decide, .inr ⟨rfl,h2⟩⟩)
  ·exact fun{d H l q t}=>go c [] (by unfold g9;erw [if_neg h1,if_neg h2];rfl) (λzz m=>nomatch m) (.inl ⟨rfl,rfl⟩)
end
end
mutual
noncomputable abbrev DI:List Nat:= [115,116,114,105,110,103]
noncomputable abbrev HC:List S:= [(.ite (.j .ge (.v 3) (.bi .len [(.aT (.v 0) 13)])) [.fail] []),(.aS (.v 4) (.idx (.aT (.v 0) 13) (.v 3))),(.ite (.j .eq (.v 4) (.lit (.str [34]))) [(.ret (.meth (.v 0) 64 [(.lit (.str [115,116,114,105,110,103])),(.call 18 [(.meth (.lit (.str [])) 6 [(.v 2)])]),(.o .add (.v 3) (.lit (.int 1)))]))] []),(.ite (.j .eq (.v 4) (.lit (.str [92]))) [(.aS (.v 3) (.o .add (.v 3) (.lit (.int 1)))),(.aS (.v 4) (.slice (.aT (.v 0) 13) (some (.v 3)) (some (.o .add (.v 3) (.lit (.int 1)))))),(.ite (.j .eq (.v 4) (.lit (.str []))) [.fail] []),(.ite (.and (.j .ne (.v 4) (.lit (.str [34]))) (.j .ne (.v 4) (.lit (.str [92])))) [.fail] [])] []),(.expr (.meth (.v 2) 0 [(.v 4)])),(.aS (.v 3) (.o .add (.v 3) (.lit (.int 1))))]
end
section
mutual
variable{cs b:List Nat}{a:Nat}
variable{d:Nat}{H H':Hp}{l p q:Nat}{t s s' r u w:List Nat}{c:Nat}{Q:Qv}
def Tr{v:AV}:aQ (d+1) (H++ [.n 5 []]) 12 [.ref H.length,v] (.none,H++ [.n 5 [(19,v)]]):=fB (F:=S5) rfl rfl rfl (aC (dU rfl (ah rfl) rfl rfl) bb)
def Uv(hl:cs.length<=1000000):aQ (d+2) H 18 [.str cs] (.ref (H.length+1),H++ [.list (cs.map λc:Nat=> .int c)]++ [.n 5 [(19, .ref H.length)]]):=by
 have e:=tN (d:=d+1) (H:=H) (g:=λc=> .int c) (a:=(.bi .ord [(.v 1)])) (i:=1) cs [] [some (.str cs),none,none] (λc m ls H h1 h2 h3=>eI (ak (ah h3) aq) rfl) rfl (by show 0+_<=_;exact(cA (aK (aI 0) ai) cY [(ai,cY)] aS hl));have e2:=bz (d:=d+1) (f:=18) (args:= [.str cs]) (F:=SY) rfl rfl rfl (fx (gH (ak (k7 rfl (ah rfl) rfl e) aq) rfl Tr));rw[ag]at e2;exact e2
def QP{b:Nat}(h:a<b):iI H .ge (.int a) (.int b)=some false:=dF (wQ.mpr (fX.mpr h))
def GJ{a:List Nat}(h:a≠b):iI H .ne (.str a) (.str b)=some true:=nT h
def nJ{a:List Nat}(h:a=b):iI H .ne (.str a) (.str b)=some false:=nF h
noncomputable abbrev xO(us:List Nat):Cell:= .list (us.map λc=> .str [c])
def EA{x1 x4:Option AV}{us:List Nat}(L:Lx H l t p)(hl:t.length<=1000000)(ha:At t a (c::s)){ss:List S}{o:Fl×Ls×Hp}
  (k:gI d [some (.ref l),x1,some (.ref H.length),some (.int a),some (.str [c]),none,none] (H++ [xO us]) (HC.drop 2) o):gI d [some (.ref l),x1,some (.ref H.length),some (.int a),x4,none,none] (H++ [xO us]) HC o:=
 have L1:Lx (H++ [xO us]) l t p:=bD L
 ij (gO (ah rfl) (i9 L1 hl rfl) (QP ha.lt)) (cL (dD (cC rfl L1 rfl rfl) (ah rfl) (jb (nS ha.1) hl)) rfl k)
def tc{x1:Option AV}(L:Lx H l t q)(hl:t.length<=1000000):∀(cs us:List Nat) (a:Nat) (x4:Option AV),At t a (cB cs++34::r)->us.length+cs.length<=1000000->
  ∃k j e ls' H',Rs (d+2) [some (.ref l),x1,some (.ref H.length),some (.int a),x4,none,none] (H++ [xO us]) (.while (.lit (.bool true)) HC) (.ret (.ref k),ls',H')/\Tk H' k DI (.ref (j+1)) q e/\Lx H' l t (a+(cB cs).length+1)/\Keep (·≠l) H H'/\H.length<=j/\Hk H' j (.list ((us++cs).map λc:Nat=> .int c))/\Hk H' (j+1) (.n 5 [(19, .ref j)])
 | [],us,a,x4,ha,hu=>by
  have hus:us.length<=1000000:=aj (bw _ _) hu;have L1:Lx (H++ [xO us]) l t q:=bD L;have fl:(us.map λc=> [c]).flatten=us:=pV us;have j:=oV (d:=d+2) (ls:= [some (.ref l),x1,some (.ref H.length),some (.int a),some (.str [34]),none,none]) (a:= .v 2) (ah rfl) (aV (H:=H) (c:= .list ((us.map λc=> [c]).map .str))) (by erw [aL];exact hus) (by erw [fl];exact hus);rw[fl,iC]at j;have m:=Uv (d:=d) (H:=H++ [xO us]) hus;have L2:Lx (H++ [xO us]++ [.list (us.map λc:Nat=> .int c)]++ [.n 5 [(19, .ref (H++ [xO us]).length)]]) l t q:=bD (bD L1);refine fy (JX (d:=d) (w:=DI) (v:= .ref ((H++ [xO us]).length+1)) (e:=a+1) L2) λk H' e3 T L3 K3=>?_;refine EW k ((H++ [xO us]).length) _ _ H' (l9 (gF rfl aA) (EA (ss:= []) (us:=us) L hl ha (mw (cT rfl (gf rfl)) (fx (i5 rfl L1 rfl rfl rfl (ak aA (ak (bj (ak j aq) m) (ak (bT (ah rfl) aA rfl) aq))) e3))))) T L3 (Keep.app.trans (Keep.app.trans (Keep.app.trans K3))) (by erw [ag];exact bw _ _) ?_ ?_
  ·erw [br]
   exact K3.at_ _ _ (λe=>ba (bD aV) L2 (λh=>nomatch h) e) (bD aV)
  ·have g:Hk (H++ [xO us]++ [Cell.list (us.map λc:Nat=> .int c)]++ [Cell.n 5 [(19, .ref (H++ [xO us]).length)]]) ((H++ [xO us]).length+1) (.n 5 [(19, .ref (H++ [xO us]).length)]):=ym;exact K3.at_ _ _ (λe=>ba g L2 (λh=>nomatch h) e) g
 | c::cs,us,a,x4,ha,hu=>by
  have hus:us.length<=1000000:=aj (bw _ _) hu;have hu':(us++ [c]).length+cs.length<=1000000:=by erw [ag];exact(f9 _ 1 _).symm ▸(dq cs.length 1 ▸hu)
  have app:∀(a:Nat),gI (d+2) [some (.ref l),x1,some (.ref H.length),some (.int a),some (.str [c]),none,none] (H++ [xO us]) (HC.drop 4) (.next,[some (.ref l),x1,some (.ref H.length),some (.int (a+1:Nat)),some (.str [c]),none,none],H++ [xO (us++ [c])]):=λa=>
   ux (ft (ah rfl) aV (ah rfl) aV (aN (by erw [aL];exact hus))) (cL (bT (ah rfl) aA rfl) rfl (by
    erw [lF,(show(us.map λc=>AV.str [c])++ [.str [c]]=(us++ [c]).map λc=> .str [c]from by erw [bc];rfl)]
    exact bb));rcases Decidable.em (c=34\/c=92)with hc | hc
  ·have es:cB (c::cs)=92::c::cB cs:=if_pos hc;rw[es]at ha |-
   have ha1:At t (a+1) (c::(cB cs++34::r)):=At.cons ha;refine w2 (tc (x1:=x1) L hl cs (us++ [c]) (a+1+1) (some (.str [c])) ha1.cons hu') λk j e ls' H' hw T L' K hj h1 h2=>?_;rw[aB]at h1;have L1:Lx (H++ [xO us]) l t q:=bD L;refine EW k j e ls' H' (eR (gF rfl aA) (EA (ss:= []) (us:=us) L hl ha (ij (cT rfl (dG (λe=>nomatch e))) (aC (ff (cT rfl (gf rfl)) (cL (bT (ah rfl) aA rfl) rfl (cL (jC (de (ah rfl) L1 rfl rfl) (ah rfl) (bT (ah rfl) aA rfl) (qw (p:=a+1) (w:= [c]) (j:=a+1+1) hl ha1 rfl)) rfl (aC (cV (gF rfl (dy (ah rfl) aA (dG (λe=>nomatch e)))) bb) (aC (cV ?_ bb) bb))))) (app (a+1))))) hw) T ?_ K hj h1 h2
   ·cases hc using cW with
    | inl h=>erw [h];exact pk (cT rfl (nJ rfl))
    | inr h=>erw [h];exact mz (cT rfl (GJ (λe=>nomatch e))) (cT rfl (nJ rfl))
   ·erw [(show a+(92::c::cB cs).length=a+1+1+(cB cs).length from by erw [aJ,aJ];exact(bJ (bF (aK ai (eT cO)) (aK (eT bh) az) [] aS) (bF (aK (eT bh) az) (aK ai (eT cO)) [] aS)))]
    exact L'
  ·have es:cB (c::cs)=c::cB cs:=if_neg hc;rw[es]at ha |-
   refine w2 (tc (x1:=x1) L hl cs (us++ [c]) (a+1) (some (.str [c])) (At.cons ha) hu') λk j e ls' H' hw T L' K hj h1 h2=>?_;rw[aB]at h1;refine EW k j e ls' H' (eR (gF rfl aA) (EA (ss:= []) (us:=us) L hl ha (ij (cT rfl (dG λe=>hc (.inl (dC e).1))) (ij (cT rfl (dG λe=>hc (.inr (dC e).1))) (app a)))) hw) T ?_ K hj h1 h2
   erw [(show a+(c::cB cs).length=a+1+(cB cs).length from by erw [aJ];exact(bJ (bF (aK ai cO) (aK bh az) [] aS) (bF (aK bh az) (aK ai cO) [] aS)))]
   exact L'
def T8(L:Lx H l t q)(hl:t.length<=1000000)(hc:cs.length<=1000000)(a:At t q (34::cB cs++34::r)):∃k j e H',aQ (d+3) H 95 [.ref l] (.ref k,H')/\Tk H' k DI (.ref (j+1)) q e/\Lx H' l t (q+1+(cB cs).length+1)/\Keep (·≠l) H H'/\H.length<=j/\Hk H' j (.list (cs.map λc:Nat=> .int c))/\Hk H' (j+1) (.n 5 [(19, .ref j)]):=by
 refine w2 (tc (d:=d) (x1:=some (.int q)) (r:=r) L hl cs [] (q+1) none a.cons (by show 0+_<=_;exact(cA (aK (aI 0) ai) cY [(ai,cY)] aS hc))) λk j e ls' H' hw T L' K hj h1 h2=>?_;exact HQ k j e H' (bz (F:=Sn) rfl rfl rfl (cL (cC rfl L rfl rfl) rfl (cL (fK aq (aN (aY _))) rfl (cL (bT (ah rfl) aA rfl) rfl (eQ hw))))) T L' K hj h1 h2
def DA(hc:cs.length<=1000000):Tok ([34]++cB cs++ [34]++r) DI (Mr (.text cs)) r:=fun{d H l q t} L hl a=>by
 have a':At t q (34::cB cs++34::r):=by
  erw [(show 34::cB cs++34::r= [34]++cB cs++ [34]++r from by erw [aB,aB];rfl)];exact a
 refine Gm (T8 (d:=d+18) L hl hc a') λk j e H' e1 T L' K hj h1 h2=>?_;refine yg k _ _ _ _ _ H' (DF L hl a' rfl (mw (cT rfl (gf rfl)) (fx (i5 rfl L rfl rfl rfl aq e1)))) T L' ?_ K (λn es hn=>(CG (j+1) j rfl (jY h2 rfl (λzz zy h=>nomatch h)) h2 (⟨λc zz=> .inl (aj hn hj),λi s e=>nomatch h1.symm.trans e⟩) h1));have:=At.app (w:= [34]++cB cs++ [34]) a;rw[show q+([34]++cB cs++ [34]:List Nat).length=q+1+(cB cs).length+1 from by erw [ag,ag];show q+(1+_+1)=_;exact(bJ (bF (aK ai (eT (aK (aI 1) az))) (eT (aK bh az)) [] aS) (bF (eT (aK bh az)) (aK ai (eT (aK (aI 1) az))) [] aS))]at this;exact this
end
end
mutual
def nv{s:List Nat}{v:AV}:∀{es:List (List Nat×AV)},kB s (nV s v es)=some v
 | []=>if_pos rfl
 | (g,u)::r=>by
  unfold nV;rcases Decidable.em (g=s)with h | h
  ·erw [if_pos h];exact if_pos rfl
  ·erw [if_neg h];exact(if_neg h).trans nv
def rX{s:List Nat}{v:AV}(hs:s'≠s):∀{es:List (List Nat×AV)},kB s' (nV s v es)=kB s' es
 | []=>if_neg (Ne.symm hs)
 | (g,u)::r=>by
  unfold nV;rcases Decidable.em (g=s)with h | h
  ·erw [if_pos h]
   show(if s=s' then some v else kB s' r)=if g=s' then some u else kB s' r
   erw [if_neg (Ne.symm hs),(if_neg (by erw [h];exact Ne.symm hs))];rfl
  ·erw [if_neg h]
   show(if g=s' then some u else kB s' (nV s v r))=if g=s' then some u else kB s' r
   erw [rX hs];rfl
def xo{s:List Nat}{v:AV}:∀{es:List (List Nat×AV)},(nV s v es).length<=es.length+1
 | []=>ay _
 | (g,u)::r=>by
  unfold nV;rcases Decidable.em (g=s)with h | h
  ·erw [if_pos h];exact ox _
  ·erw [if_neg h];exact dB xo
abbrev HF(es:List (List Nat×AV))(L:List (List Nat)):Nat:=(L.filter λs=>(kB s es).isNone).length
def uY{p q:α->Bool}(h:∀x,q x=true->p x=true):∀{l:List α},(l.filter q).length<=(l.filter p).length
 | []=>ay _
 | x::l=>by
  have ih:=uY h (l:=l);cases hp:p x with
  | true=>cases hq:q x with
   | true=>erw [eK hp,eK hq];exact dB ih
   | false=>erw [eK hp,(eN (by erw [hq];exact nofun))];exact gL ih
  | false=>cases hq:q x with
   | true=>rw[h x hq]at hp;exact nomatch hp
   | false=>erw [(eN (by erw [hq];exact nofun)),(eN (by erw [hp];exact nofun))];exact ih
def uX{p q:α->Bool}(h:∀x,q x=true->p x=true){s:α}(h1:p s=true)(h2:q s=false):∀{l:List α},s∈l->(l.filter q).length+1<=(l.filter p).length
 | x::l,m=>by
  cases m with
  | head=>erw [eK h1,(eN (by erw [h2];exact nofun))];exact dB (uY h)
  | tail zz m=>
   have ih:=uX h h1 h2 m;cases hp:p x with
   | true=>cases hq:q x with
    | true=>erw [eK hp,eK hq];exact dB ih
    | false=>erw [eK hp,(eN (by erw [hq];exact nofun))];exact gL ih
   | false=>cases hq:q x with
    | true=>rw[h x hq]at hp;exact nomatch hp
    | false=>erw [(eN (by erw [hq];exact nofun)),(eN (by erw [hp];exact nofun))];exact ih
def Ho{s:List Nat}{v:AV}{es:List (List Nat×AV)}(h:(kB s' (nV s v es)).isNone=true):(kB s' es).isNone=true:=by
 rcases Decidable.em (s'=s)with e | e
 ·rw[e,nv]at h;exact nomatch h
 ·rw[rX e]at h;exact h
structure Tb(H:Hp)(tb rw dc:Nat)(es:List (List Nat×AV)):Prop where
 ht:Hk H tb (.n 2 [(14, .ref rw),(15, .ref dc)])
 hr:∃rs,Hk H rw (.list rs)/\rs.length+HF es names<=14
 he:es.length+HF es names<=14
 hd:Hk H dc (.dict es)
 hs:∀s v,kB s es=some v->∃k n,v= .ref k/\Hk H k (.n 1 [(12, .int n),(13, .str s)])
end
section
mutual
variable{d:Nat}{H H':Hp}{tb rw dc:Nat}{es:List (List Nat×AV)}{s:List Nat}
def Tb.ne(T:Tb H tb rw dc es):rw≠dc:=by refine aM (T.hr) λrs h zz=>?_;exact ba h T.hd (λe=>nomatch e)
def Tb.net(T:Tb H tb rw dc es):tb≠rw/\tb≠dc:=by refine aM (T.hr) λrs h zz=>?_;exact⟨ba T.ht h (λe=>nomatch e),ba T.ht T.hd (λe=>nomatch e)⟩
def Tb.keep{ok:Nat->Prop}(T:Tb H tb rw dc es)(K:Keep ok H H')(o1:ok tb)(o2:ok rw)(o3:ok dc)(o4:∀k n s,Hk H k (.n 1 [(12, .int n),(13, .str s)])->ok k):Tb H' tb rw dc es:=by
 refine aM (T.hr) λrs h hl=>?_;exact⟨K.at_ _ _ o1 T.ht,(bI rs (K.at_ _ _ o2 h) hl),T.he,K.at_ _ _ o3 T.hd,λs v e=>by refine gz (T.hs s v e) λk n e1 e2=>?_;exact kX k n e1 (K.at_ _ _ (o4 k n s e2) e2)⟩
def JR{ls:Ls}{a b:E}{au:Hp}(ha:Re d ls H a (.ref dc,H))(hd:Hk H dc (.dict es))(hb:Re d ls H b (.str s,H)):Re d ls H (.meth a 2 [b, .lit .none]) ((kB s es).getD .none,H):=
 r5 ha (by show(H[dc]?).bind (xK P 2)=none;erw [hd];rfl) (by show lH 2 H[dc]? =true;erw [hd];rfl) (ak hb (gS aq)) (bo hd rfl)
def c7(T:Tb H tb rw dc es):aQ (d+1) H 7 [.ref tb, .str s] ((kB s es).getD .none,H):=
 bz (F:=f7) rfl rfl rfl (fx (JR (au:=H) (cC rfl T.ht rfl rfl) T.hd (ah rfl)))
def c2{a b:AV}:aQ (d+1) (H++ [.n 1 []]) 2 [.ref H.length,a,b] (.none,H++ [.n 1 [(12,a),(13,b)]]):=fB (F:=f2) rfl rfl rfl (aC (dU rfl (ah rfl) rfl rfl) (aC (dU rfl (ah rfl) rfl rfl) bb))
def c4(T:Tb H tb rw dc es)(hn:s∈names):∃k es' H',aQ (d+2) H 4 [.ref tb, .str s] (.ref k,H')/\Tb H' tb rw dc es'/\Sub es es'/\kB s es'=some (.ref k)/\Keep (λi=>i≠rw/\i≠dc) H H':=by
 have g:∀{x2:Option AV},Re (d+1) [some (.ref tb),some (.str s),x2,none,none] H (.meth (.aT (.v 0) 15) 2 [.v 1, .lit .none]) ((kB s es).getD .none,H):=JR (au:=H) (cC rfl T.ht rfl rfl) T.hd (ah rfl);cases hk:kB s es with
 | some v=>
  refine gz (T.hs s v hk) λk n xq1 hc=>?_;subst xq1;rw[hk]at g;exact iR k es H (bz (F:=f4) rfl rfl rfl (cL g rfl (ij (cT rfl rfl) (fx (ah rfl))))) T .refl hk .refl
 | none=>
  rw[hk]at g;refine aM (T.hr) λrs hr hl=>?_;have lk:HF (nV s (.ref H.length) es) names+1<=HF es names:=uX (λx=>Ho) (by erw [hk];rfl) (by erw [nv];rfl) hn;have hrs:rs.length<=1000000:=by exact(bF ai cY [(aK ai az,aI 14)] aS hl)
  have hes:cG es.length=true:=aN (by have:=T.he;exact(bF ai cY [(aK ai az,aI 14)] aS this));have r1:rw<H.length:=bx hr;have d1:dc<H.length:=bx T.hd;have t1:(H++ [Cell.n 1 [(12,AV.int rs.length),(13,AV.str s)]])[tb]? =_:=bD T.ht;have hr1:(H++ [Cell.n 1 [(12,AV.int rs.length),(13,AV.str s)]])[rw]? =_:=bD hr;have hd2:Hk ((H++ [Cell.n 1 [(12,AV.int rs.length),(13,AV.str s)]]).set rw (Cell.list (rs++ [AV.ref H.length]))) dc (.dict es):=cX T.ne (bD T.hd);have t2:((H++ [Cell.n 1 [(12,AV.int rs.length),(13,AV.str s)]]).set rw (Cell.list (rs++ [AV.ref H.length])))[tb]? =_:=cX T.net.1.symm t1;have K:Keep (λi=>i≠rw/\i≠dc) H (((H++ [Cell.n 1 [(12,AV.int rs.length),(13,AV.str s)]]).set rw (Cell.list (rs++ [AV.ref H.length]))).set dc (.dict (nV s (.ref H.length) es))):=(Keep.app.trans (Keep.set λo=>o.1 rfl)).trans (Keep.set λo=>o.2 rfl);have sb:Sub es (nV s (.ref H.length) es):=λs' v h=>by
   erw [(rX (λe=>by rw[e,hk]at h;exact nomatch h))];exact h
  refine iR H.length (nV s (.ref H.length) es) _ (bz (F:=f4) rfl rfl rfl (cL g rfl (aC (ff (cT rfl rfl) (cL (gH (ak (eI (ak (cC rfl T.ht rfl rfl) aq) (ku hr hrs)) (bW rfl aq)) rfl c2) rfl (ux (ft (de (ah rfl) t1 rfl rfl) hr1 (ah rfl) hr1 (aN hrs)) (aC (iU (ah rfl) (FY (de (ah rfl) t2 rfl rfl) (ah rfl) ?_)) bb)))) (fx (ah rfl))))) (⟨K.at_ _ _ T.net T.ht,(bI (rs++ [.ref H.length]) ?_ ?_),?_,?_,?_⟩) sb nv K
  ·show(((H++ [Cell.n 1 [(12,AV.int rs.length),(13,AV.str s)]]).set rw (Cell.list (rs++ [AV.ref H.length])))[dc]?).bind _=_
   erw [hd2]
   show eV (cG es.length) _=_
   erw [hes];rfl
  ·exact cX T.ne.symm (cP (by erw [ag];exact gL r1))
  ·erw [ag];show rs.length+1+_<=_;exact(gn (aK bh az) (aI 14) [(cO,bH),(aK ai bH,aI 14)] aS lk hl)
  ·have:=T.he;have:=xo (s:=s) (v:= .ref H.length) (es:=es);lia
  ·exact cP (by erw [iM,ag];exact gL d1)
  ·intro s' v h;rcases Decidable.em (s'=s)with e | e
   ·rw[e,nv]at h
    (replace h:=af h;subst h)
    exact kX _ rs.length rfl (by erw [e];exact cX (aE d1) (cX (aE r1) aV))
   ·rw[rX e]at h;refine gz (T.hs s' v h) λk n e1 e2=>?_;exact kX k n e1 (K.at_ _ _ ⟨λe=>ba e2 hr (λh=>nomatch h) e,λe=>ba e2 T.hd (λh=>nomatch h) e⟩ e2)
end
end
mutual
def HH{H:Hp}{n:Nat}(h:n<=1000000):gC H (.rng ((n:Int)-1) (-1) (-1))=some (.rng ((n:Int)-1) (-1) n):=by
 have e1:hO ((n:Int)-1) (-1) (-1)=n:=by
  unfold hO eO
  erw [(if_neg (by decide))]
  cases n using bM with
  | zero=>rfl
  | succ n=>
   erw [(if_pos (by exact(eC [] [_] 0 (.ip (.ik (-1)) (.ik 1)) (.is (.ic bh) (.ik 1)) .ho aS))),(show(((n+1:Nat):Int)-1- -1-1) / -(-1)+1=((n+1:Nat):Int)from by erw [(show -(-1:Int)=1 from rfl),Int.ediv_one];exact(jW (eC [] [_] 0 (.ip (.is (.is (.is (.ic bh) (.ik 1)) (.ik (-1))) (.ik 1)) (.ik 1)) (.ic bh) .ho aS) (eC [] [_] 0 (.ic bh) (.ip (.is (.is (.is (.ic bh) (.ik 1)) (.ik (-1))) (.ik 1)) (.ik 1)) .ho aS)))]
   exact Int.toNat_natCast _
 have fl:∀i:Int,-1000001<=i->i<=1000001->Builtin.Range.rangeFitsLong i=true:=λi h1 h2=>ae.mpr ⟨decide_eq_true (by exact(eC [_] [] 0 (.ik (-(2 ^ 63))) (.iv 0) (.hz (.ik (-1000001)) (.iv 0) .ho) (by kernel_rfl) h1)),decide_eq_true (by exact(eC [_] [] 0 (.ip (.iv 0) (.ik 1)) (.ik (2 ^ 63)) (.hz (.iv 0) (.ik 1000001) .ho) aS h2))⟩;have sz:eO ((n:Int)-1) (-1) (-1)=n:=(bV (jv _ _ _)).symm.trans (congrArg Int.ofNat e1);have e2:cy ((n:Int)-1) (-1) (-1)=true:=by
  unfold cy
  erw [sz];rewrite [fl _ (by exact(eC [] [_] 0 (.ik (-1000001)) (.is (.ic ai) (.ik 1)) .ho aS)) (by exact(eC [] [_] 0 (.is (.ic ai) (.ik 1)) (.ik 1000001) (.hn ai cY .ho) aS h)),fl (-1) (by decide) (by decide),fl n (by exact(eC [] [_] 0 (.ik (-1000001)) (.ic ai) .ho aS)) (by exact(eC [] [_] 0 (.ic ai) (.ik 1000001) (.hn ai cY .ho) aS h))];erw [(if_neg (by decide)),(fl (-1+(-1+1)) (by decide) (by decide)),Bool.or_true]
  rfl
 show eV (cy _ _ _) (some (It.rng _ (-1) (hO _ (-1) (-1))))=_
 erw [e1,e2];rfl
abbrev jI(ok:Nat->Prop)(H:Hp)(vs:List AV)(xs:List D):Prop:=vs.length=xs.length/\∀(i:Nat) v,vs[i]? =some v->∃x,xs[i]? =some x/\gJ ok H v x
end
section
mutual
variable{kt:Nat}
variable{d n:Nat}{H H':Hp}{vs:List AV}{xs:List D}{es es':List (List Nat×AV)}{v:AV}{x:D}{ok ok':Nat->Prop}
def jI.nil:jI ok H [] []:=⟨rfl,λi v h=>nomatch h⟩
def jI.add(r:jI ok H vs xs)(q:gJ ok H v x):jI ok H (vs++ [v]) (xs++ [x]):=⟨by erw [ag,ag,r.1];rfl,λi u h=>by
 rcases yV i vs.length with l | l
 ·rw[dm l]at h;refine aM (r.2 i u h) λy e q'=>?_;exact bI y (by erw [dm (r.1 ▸l)];exact e) q'
 ·rw[dg l]at h;cases hi:i-vs.length with
  | zero=>
   rw[hi]at h
   (replace h:=af h;subst h)
   exact bI x (by erw [dg (r.1 ▸l),<- r.1,hi];rfl) q
  | succ j=>rw[hi]at h;exact nomatch h⟩
def jI.imp(r:jI ok H vs xs)(h:∀v x,gJ ok H v x->gJ ok' H' v x):jI ok' H' vs xs:=⟨r.1,λi v e=>by refine aM (r.2 i v e) λy e' q=>?_;exact bI y e' (h v y q)⟩
def Tt{a b:AV}:aQ (d+1) (H++ [.n 3 []]) 10 [.ref H.length,a,b] (.none,H++ [.n 3 [(16,a),(17,b)]]):=fB (F:=S7) rfl rfl rfl (aC (dU rfl (ah rfl) rfl rfl) (aC (dU rfl (ah rfl) rfl rfl) bb))
def D7{a b:D}{u w:AV}(ra:gJ (Nw n H es) H u a)(rb:gJ (Nw n H es) H w b):gJ (Nw n (H++ [.n 3 [(16,u),(17,w)]]) es) (H++ [.n 3 [(16,u),(17,w)]]) (.ref H.length) (.pair a b):=
 (iR _ u w rfl (jY aV rfl (λzz zy h=>nomatch h)) aV (ra.move Keep.app iD.lt .refl (ay _)) (rb.move Keep.app iD.lt .refl (ay _)))
noncomputable abbrev Qw:List S:= [(.aS (.v 2) (.new 3 [(.idx (.v 0) (.v 3)),(.v 2)]))]
def uP{l1 l4 l5:Option AV}(hn:vs.length<=1000000):∀(m:Nat) (H:Hp) (v:AV) (x:D) (x3:Option AV),m<=vs.length->Hk H kt (.list vs)->jI (Nw n H es) H vs xs->gJ (Nw n H es) H v x->
  ∃v' x3' H',lO (d+1) [some (.ref kt),l1,some v,x3,l4,l5] H (.rng ((m:Int)-1) (-1) m) (.one 3) Qw (.next,[some (.ref kt),l1,some v',x3',l4,l5],H')/\gJ (Nw n H' es) H' v' ((xs.take m).foldr .pair x)/\Keep all H H'
 | 0,H,v,x,x3,_,_,_,q=>(LF v x3 H (iH rfl) q .refl)
 | m+1,H,v,x,x3,hm,hk,r,q=>by
  have hv:vs[m]? =some vs[m]:=bq hm;refine aM (r.2 m _ hv) λy hy ry=>?_;obtain⟨v',x3',H',e,q',K⟩:=uP hn m (H++ [.n 3 [(16,vs[m]),(17,v)]]) (.ref H.length) (.pair y x) (some (.int (m:Int))) (dh hm) (bD hk) (r.imp λv x q=>q.move Keep.app iD.lt .refl (ay _)) (D7 ry q)
  erw [(show(((m+1:Nat):Int)-1)=(m:Int)from by exact(jW (eC [] [_] 0 (.is (.ic bh) (.ik 1)) (.ic ai) .ho aS) (eC [] [_] 0 (.ic ai) (.is (.ic bh) (.ik 1)) .ho aS)))]
  refine LF v' x3' H' (fq (v:= .int (m:Int)) (it':= .rng ((m:Int)+ -1) (-1) m) rfl rfl (cL (gH (ak (dD (ah rfl) (ah rfl) (fi hk hn hv)) (bW rfl aq)) rfl Tt) rfl bb) e) ?_ (Keep.app.trans K)
  erw [List.take_succ_eq_append_getElem (r.1 ▸hm),List.foldr_append]
  erw [(show xs[m]'(r.1 ▸hm)=y from af ((bq _).symm.trans hy))]
  exact q'
def Uu(hn:vs.length<=1000000)(hk:Hk H kt (.list vs))(r:jI (Nw n H es) H vs xs)(q:gJ (Nw n H es) H v x):∃v' H',aQ (d+2) H 20 [.ref kt,v] (v',H')/\gJ (Nw n H' es) H' v' (xs.foldr .pair x)/\Keep all H H':=by
 refine B3 (uP (d:=d) (l1:=some v) (l4:=none) (l5:=none) hn vs.length H v x none (ay _) hk r q) λv' x3' H' e q' K=>?_;rw[show xs.take vs.length=xs from by erw [r.1,qn];rfl]at q';exact i7 v' H' (bz (F:=SW) rfl rfl rfl (cL (ah rfl) rfl (aC (mN (eI (ak (bT (eI (bW rfl aq) (ku hk hn)) aA rfl) (ak (p6 aA) (ak (p6 aA) aq))) Ba) (HH hn) e) (fx (ah rfl))))) q' K
end
end
mutual
noncomputable abbrev JK(w:List Nat)(a:AV)(kt:Nat)(st:Int)(tl:AV):Cell:= .n 22 [(23, .str w),(40,a),(20, .ref kt),(44, .int st),(45,tl)]
noncomputable abbrev tf:List Nat:= [108,105,115,116]
noncomputable abbrev Dv:List Nat:= [118,101,99,116,111,114]
end
section
mutual
variable{d n:Nat}{H H' au:Hp}{vs:List AV}{k r l f tb rw dc kf kt p:Nat}{t w:List Nat}{fs:List AV}{es:List (List Nat×AV)}{v a tl:AV}{st:Int}{ls:Ls}{x:E}
def fj{k:Nat}(h:Hk H k (.list vs)):aF H k=some vs:=by unfold aF;erw [h];rfl
def EB(h:Hk H k (.list vs))(hv:vs≠ []):iI (H++ [.list []]) .eq (.ref k) (.ref H.length)=some false:=by
 show(aF (H++ [.list []]) k).bind (λx=>(aF (H++ [.list []]) H.length).bind λy=>cond (aX x.length y.length) _ (some false))=_
 erw [fj (bD h),fj aV]
 cases vs using aw with
 | nil=>exact absurd rfl hv
 | cons a b=>rfl
def xS(h:Hk H k (.list [])):iI (H++ [.list []]) .eq (.ref k) (.ref H.length)=some true:=by
 show(aF (H++ [.list []]) k).bind (λx=>(aF (H++ [.list []]) H.length).bind λy=>cond (aX x.length y.length) (CV ((toPDs x).map .list) ((toPDs y).map .list)) (some false))=_
 erw [fj (bD h),fj aV]
 rfl
def vx(hx:Re d ls H x (.ref k,H))(h:Hk H k (.list vs))(hv:vs≠ []):Rt d ls H (.j .eq x (.list [])) (false,H++ [.list []]):=gO hx (fK aq (aN (aY _))) (EB h hv)
def GH(hx:Re d ls H x (.ref k,H))(h:Hk H k (.list [])):Rt d ls H (.j .eq x (.list [])) (true,H++ [.list []]):=gO hx (fK aq (aN (aY _))) (xS h)
def GG(hx:Re d ls H x (.ref k,H))(h:Hk H k (.list [])):Rt d ls H (.j .ne x (.list [])) (false,H++ [.list []]):=gO hx (fK aq (aN (aY _))) (by show(Gj _ _ _).map _=_;erw [(show Gj (H++ [.list []]) (.ref k) (.ref H.length)=some true from xS h)];rfl)
def pR(h:Hk H k (.list (vs++ [v])))(hr:vs.length+1<=1000000):rN H (.ref k) (.int (-1))=some v:=by
 show(aF H k).bind (λvs=>rO vs (-1))=_
 erw [fj h]
 show(wY (.negSucc 0) (vs++ [v]).length).bind (λj=>(vs++ [v])[j]?)=_;unfold wY
 erw [(aN (by erw [ag];exact hr))]
 show(match cg 0 (vs++ [v]).length with | true=>some ((vs++ [v]).length-1) | false=>none).bind _=_
 erw [(show cg 0 (vs++ [v]).length=true from cM.mpr (by erw [ag];exact k9 _))]
 show(vs++ [v])[(vs++ [v]).length-1]? =_
 erw [ag,(show vs.length+ [v].length-1=vs.length from rfl),dg (ay _),mT]
 rfl
def T7{b c:AV}:aQ (d+1) (H++ [.n 22 []]) 96 [.ref H.length, .str w,b, .ref kt] (.none,H++ [JK w b kt 0 (.obj 0)]):=fB (F:=Sm) rfl rfl rfl (aC (dU rfl (ah rfl) rfl rfl) (aC (dU rfl (ah rfl) rfl rfl) (aC (dU rfl (ah rfl) rfl rfl) (aC (dU rfl aA rfl rfl) (aC (dU rfl aA rfl rfl) bb)))))
structure RdS(H:Hp)(r l f tb rw dc:Nat)(t:List Nat)(p:Nat)(fs:List AV)(es:List (List Nat×AV)):Prop where
 hr:Hk H r (.n 23 [(46, .ref l),(47, .ref tb),(48, .ref f)])
 hl:Lx H l t p
 hf:Hk H f (.list fs)
 ht:Tb H tb rw dc es
 fr:f≠rw
structure FrOk(H:Hp)(kf kt f rw:Nat)(w:List Nat)(a:AV)(st:Int)(tl:AV)(vs:List AV):Prop where
 hc:Hk H kf (JK w a kt st tl)
 hk:Hk H kt (.list vs)
 nf:kt≠f
 nr:kt≠rw
structure Core(ok:Nat->Prop)(r l tb rw dc:Nat)(H:Hp):Prop where
 r:ok r
 l:ok l
 tb:ok tb
 rw:ok rw
 dc:ok dc
 sy:∀k n s,Hk H k (.n 1 [(12, .int n),(13, .str s)])->ok k
def RdS.keep{ok:Nat->Prop}{fs':List AV}(S:RdS H r l f tb rw dc t p fs es)(K:Keep ok H H')(o:Core ok r l tb rw dc H)(hf:Hk H' f (.list fs')):RdS H' r l f tb rw dc t p fs' es:=⟨K.at_ _ _ o.r S.hr,K.at_ _ _ o.l S.hl,hf,S.ht.keep K o.tb o.rw o.dc o.sy,S.fr⟩
def RdS.core(S:RdS H r l f tb rw dc t p fs es){j:Nat}{c:Cell}(h:Hk H j c)(h1:qR c=false)(h2:∀a b,c≠ .n 2 [(14,a),(15,b)])(h3:∀a b e,c≠ .n 23 [(46,a),(47,b),(48,e)])(h4:∀a b e g,c≠ .n 21 [(13,a),(42,b),(26,e),(43,g)])(h5:j≠rw)(h6:∀e,c≠ .dict e):Core (·≠j) r l tb rw dc H:=⟨λe=>ba h S.hr (h3 _ _ _) e.symm,λe=>ba h S.hl (h4 _ _ _ _) e.symm,λe=>ba h S.ht.ht (h2 _ _) e.symm,h5.symm,λe=>ba h S.ht.hd (h6 _) e.symm,λk n s g e=>by
  rw[e]at g;cases h.symm.trans g
  exact nomatch h1⟩
def RdS.coreF(S:RdS H r l f tb rw dc t p fs es):Core (·≠f) r l tb rw dc H:=S.core S.hf rfl (λzz zy h=>nomatch h) (λzz zy zx h=>nomatch h) (λzz zy zx zw h=>nomatch h) S.fr (λzz h=>nomatch h)
def Core.all:Core all r l tb rw dc H:=⟨trivial,trivial,trivial,trivial,trivial,λzz zy zx zw=>trivial⟩
def RdS.more(S:RdS H r l f tb rw dc t p fs es)(K:Keep all H H'):RdS H' r l f tb rw dc t p fs es:=S.keep K .all (K.at_ _ _ trivial S.hf)
def FrOk.keep{ok:Nat->Prop}(F:FrOk H kf kt f rw w a st tl vs)(K:Keep ok H H')(o1:ok kf)(o2:ok kt):FrOk H' kf kt f rw w a st tl vs:=⟨K.at_ _ _ o1 F.hc,K.at_ _ _ o2 F.hk,F.nf,F.nr⟩
def sU(S:RdS H r l f tb rw dc t p fs es)(hn:fs.length<=1000000){k:Nat}{w':List Nat}{e:AV}(T:Hk H k (.n 20 [(23, .str w'),(39,v),(40,a),(41,e)])):∃kf kt H',Rs (d+1) [some (.ref r),some (.ref k),none,none,none,none] H (.expr (.meth (.aT (.v 0) 48) 0 [(.new 22 [(.lit (.str w)),(.aT (.v 1) 40),(.list [])])])) (.next,[some (.ref r),some (.ref k),none,none,none,none],H')/\RdS H' r l f tb rw dc t p (fs++ [.ref kf]) es/\FrOk H' kf kt f rw w a 0 (.obj 0) []/\H.length<=kf/\H.length<=kt/\Keep (·≠f) H H':=by
 have K0:Keep all H (H++ [.list []]++ [JK w a H.length 0 (.obj 0)]):=Keep.app.trans Keep.app;have f0:f<H.length:=bx S.hf;have K:Keep (·≠f) H ((H++ [Cell.list []]++ [JK w a H.length 0 (.obj 0)]).set f (.list (fs++ [.ref (H++ [Cell.list []]).length]))):=(K0.weak λzz zy=>trivial).trans (Keep.set λo=>o rfl);refine LD _ H.length _ (sP (ft (cC rfl S.hr rfl rfl) S.hf (gH (gS (ak (cC rfl T rfl rfl) (ak (fK aq (aN (aY _))) aq))) rfl (T7 (c:=v))) (bD (bD S.hf)) (aN hn))) (S.keep K S.coreF (cP (by erw [ag,ag];exact(bF bh (aK (aK az (eT (aI 0))) (eT (aI 0))) [(bh,az)] aS f0)))) (⟨cX (by erw [ag];exact(λzz=>(CM [(bh,az),((aK az (eT (aI 0))),ai)] aS f0 (lz zz)))) aV,cX (aE f0) (bD aV),Ne.symm (aE f0),?_⟩) (by erw [ag];exact(cA ai (aK ai (eT (aI 0))) [] aS)) (ay _) K;refine aM (S.ht.hr) λrs h zz=>?_;exact Ne.symm (aE (bx h))
end
end
section
mutual
variable{d n:Nat}{H H' au:Hp}{vs:List AV}{xs:List D}{k r l f tb rw dc kf kt p:Nat}{t w:List Nat}{fs:List AV}{es:List (List Nat×AV)}{v a tl a1 e1:AV}{st:Int}{x:D}{s:List Nat}
noncomputable abbrev Dm(H:Hp)(k:Nat)(w:List Nat)(v a e:AV):Prop:=Hk H k (.n 20 [(23, .str w),(39,v),(40,a),(41,e)])
def Pw(S:RdS H r l f tb rw dc t p fs es)(hn:fs.length<=1000000)(T:Dm H k [40] v a e1):∃kf kt H',aQ (d+2) H 102 [.ref r, .ref k] (.bool true,H')/\RdS H' r l f tb rw dc t p (fs++ [.ref kf]) es/\FrOk H' kf kt f rw tf a 0 (.obj 0) []/\H.length<=kf/\H.length<=kt/\Keep (·≠f) H H':=by
 refine vq (sU (d:=d) (w:=tf) S hn T) λkf kt H' e h=>?_;exact Ad kf kt H' (bz (F:=Ip) rfl rfl rfl (mw (gO (cC rfl T rfl rfl) aA (gf rfl)) (aC e (fx aA)))) h
def Pv(S:RdS H r l f tb rw dc t p fs es)(hn:fs.length<=1000000)(T:Dm H k [35,40] v a e1):∃kf kt H',aQ (d+2) H 102 [.ref r, .ref k] (.bool true,H')/\RdS H' r l f tb rw dc t p (fs++ [.ref kf]) es/\FrOk H' kf kt f rw Dv a 0 (.obj 0) []/\H.length<=kf/\H.length<=kt/\Keep (·≠f) H H':=by
 refine vq (sU (d:=d) (w:=Dv) S hn T) λkf kt H' e h=>?_;exact Ad kf kt H' (bz (F:=Ip) rfl rfl rfl (ij (gO (cC rfl T rfl rfl) aA (dG λe=>nomatch e)) (mw (gO (de (ah rfl) T rfl rfl) aA (gf rfl)) (aC e (fx aA))))) h
def JY(T:Dm H k w v a e1)(hw:(([[40],[35,40],[39],[96],[44],[44,64]]:List (List Nat)).all λy=> !decide (y=w))=true):aQ (d+2) H 102 [.ref r, .ref k] (.bool false,H):=by
 have h:=λy m=>of_decide_eq_false (m7 (aT.mp hw y m));have tk:∀{x2 x3 l4 l5:Option AV},Re (d+1) [some (.ref r),some (.ref k),x2,x3,l4,l5] H (.aT (.v 1) 23) (.str w,H):=cC rfl T rfl rfl;have step:∀{s:List Nat} {q:AV} {it:List AV} {x2 x3:Option AV} {B:List S} {o:Fl×Ls×Hp},s≠w->lO (d+1) [some (.ref r),some (.ref k),some (.str s),some q,none,none] H (.vals it) (.many [2,3]) [.ite (.j .eq (.v 2) (.aT (.v 1) 23)) B []] o->lO (d+1) [some (.ref r),some (.ref k),x2,x3,none,none] H (.vals (.U [.str s,q]::it)) (.many [2,3]) [.ite (.j .eq (.v 2) (.aT (.v 1) 23)) B []] o:=λh k=>fq rfl rfl (ij (gO (ah rfl) tk (dG h)) bb) k;exact bz (F:=Ip) rfl rfl rfl (ij (gO tk aA (dG (Ne.symm (h [40] (by decide))))) (ij (gO tk aA (dG (Ne.symm (h [35,40] (by decide))))) (aC (mN aA rfl (step (h [39] (by decide)) (step (h [96] (by decide)) (step (h [44] (by decide)) (step (h [44,64] (by decide)) (iH rfl)))))) (fx aA))))
def RR(S:RdS H r l f tb rw dc t p (fs++ [.ref kf]) es)(hn:fs.length+1<=1000000)(F:FrOk H kf kt f rw tf a 0 tl vs)(hv:vs≠ []):∃H',aQ (d+1) H 103 [.ref r,v] (.none,H')/\RdS H' r l f tb rw dc t p (fs++ [.ref kf]) es/\FrOk H' kf kt f rw tf a 1 tl vs/\Keep (·≠kf) H H':=by
 have g1:(H++ [Cell.list []])[kf]? =_:=bD F.hc;have g2:(H++ [Cell.list []]++ [Cell.list []])[kf]? =_:=bD g1;have K:Keep (·≠kf) H ((H++ [Cell.list []]++ [Cell.list []]).set kf (JK tf a kt 1 tl)):=(Keep.app.trans Keep.app).trans (Keep.set λo=>o rfl);have nf:f≠kf:=ba S.hf F.hc (λe=>nomatch e);have nr:kf≠rw:=by refine aM (S.ht.hr) λrs h zz=>?_;exact ba F.hc h (λe=>nomatch e)
 exact CH _ (fB (F:=OX) rfl rfl rfl (ij (vx (cC rfl S.hr rfl rfl) S.hf (by induction fs using aw <;> exact nofun)) (cL (dD (cC rfl (bD S.hr) rfl rfl) (p6 aA) (pR (bD S.hf) hn)) rfl (ij (iP (gF rfl (dy (de (ah rfl) g1 rfl rfl) aA (nJ rfl))) (iP (vx (de (ah rfl) g1 rfl rfl) (bD F.hk) hv) (gF rfl (dy (de (ah rfl) g2 rfl rfl) aA rfl)))) (aC (iU aA (jG (ah rfl) g2 rfl rfl)) bb))))) (S.keep K (S.core F.hc rfl (λzz zy h=>nomatch h) (λzz zy zx h=>nomatch h) (λzz zy zx zw h=>nomatch h) nr (λzz h=>nomatch h)) (K.at_ _ _ nf S.hf)) (⟨cP (by have:=bx g2;exact this),K.at_ _ _ (ba F.hk F.hc (λe=>nomatch e)) F.hk,F.nf,F.nr⟩) K
def yF(S:RdS H r l f tb rw dc t p (fs++ [.ref kf]) es)(hn:fs.length+1<=1000000)(F:FrOk H kf kt f rw w a st tl vs)(hw:w≠ [113,117,111,116,97,116,105,111,110])(hs:st≠1){o:Fl×Ls×Hp}
  (k:gI d [some (.ref r),some v,some (.ref kf),none,none] ((H++ [Cell.list []]).set f (Cell.list fs)) (Fh.body.drop 5) o):gI d [some (.ref r),some v,none,none,none] H Fh.body o:=
 ij (vx (cC rfl S.hr rfl rfl) S.hf (by induction fs using aw <;> exact nofun)) (cL (dD (cC rfl (bD S.hr) rfl rfl) (p6 aA) (pR (bD S.hf) hn)) rfl (ij (gF rfl (dy (de (ah rfl) (bD F.hc) rfl rfl) aA (dG hw))) (aC (cV (gF rfl (dy (de (ah rfl) (bD F.hc) rfl rfl) aA (kA hs))) bb) (aC (sP (JP (de (ah rfl) (bD S.hr) rfl rfl) (bD S.hf) (aN (by erw [ag];exact hn)))) k))))
def J4(S:RdS H r l f tb rw dc t p (fs++ [.ref kf]) es):RdS ((H++ [Cell.list []]).set f (Cell.list fs)) r l f tb rw dc t p fs es:=
 S.keep ((Keep.app (ok:=(·≠f))).trans (Keep.set λo=>o rfl)) S.coreF (cP (by erw [ag];exact ow (bx S.hf)))
def J5:Keep (·≠f) H ((H++ [Cell.list []]).set f (Cell.list fs)):=Keep.app.trans (Keep.set λo=>o rfl)
def Om(S:RdS H r l f tb rw dc t p fs es)(hfn:f<n):iD n H (·≠f):=iD.ne S.hf hfn rfl
def Pu(S:RdS H r l f tb rw dc t p (fs++ [.ref kf]) es)(hn:fs.length+1<=1000000)(F:FrOk H kf kt f rw tf a st tl vs)(hs:st≠1)(hv:vs.length<=1000000)(hfn:f<n)(rs:jI (Nw n H es) H vs xs)(q:gJ (Nw n H es) H tl x):∃v' H',aQ (d+3) H 104 [.ref r,v] (v',H')/\RdS H' r l f tb rw dc t p fs es/\gJ (Nw n H' es) H' v' (xs.foldr .pair x)/\Keep (·≠f) H H':=by
 have K1:Keep (·≠f) H ((H++ [Cell.list []]).set f (Cell.list fs)):=J5;have F1:=F.keep K1 (ba F.hc S.hf λe=>nomatch e) F.nf;refine dY (Uu (d:=d) hv F1.hk (rs.imp λv x q=>q.move K1 (Om S hfn) .refl (ay _)) (q.move K1 (Om S hfn) .refl (ay _))) λv' H' e q' K=>?_;exact d4 v' H' (bz (F:=Fh) rfl rfl rfl (yF S hn F (λe=>nomatch e) hs (ij (gO (cC rfl F1.hc rfl rfl) aA (dG λe=>nomatch e)) (fx (bj (ak (cC rfl F1.hc rfl rfl) (ak (cC rfl F1.hc rfl rfl) aq)) e))))) ((J4 S).more K) q' (K1.trans (K.weak λzz zy=>trivial))
def Tq{v:AV}:aQ (d+1) (H++ [.n 6 []]) 13 [.ref H.length,v] (.none,H++ [.n 6 [(20,v)]]):=fB (F:=SZ) rfl rfl rfl (aC (dU rfl (ah rfl) rfl rfl) bb)
def Pt(S:RdS H r l f tb rw dc t p (fs++ [.ref kf]) es)(hn:fs.length+1<=1000000)(F:FrOk H kf kt f rw Dv a 0 tl vs):∃k' H',aQ (d+3) H 104 [.ref r,v] (.ref k',H')/\RdS H' r l f tb rw dc t p fs es/\Hk H' k' (.n 6 [(20, .ref kt)])/\Keep (·≠f) H H':=by
 have K1:Keep (·≠f) H ((H++ [Cell.list []]).set f (Cell.list fs)):=J5;have F1:=F.keep K1 (ba F.hc S.hf λe=>nomatch e) F.nf;exact d4 _ _ (bz (F:=Fh) rfl rfl rfl (yF S hn F (λe=>nomatch e) (λe=>nomatch e) (mw (gO (cC rfl F1.hc rfl rfl) aA (gf rfl)) (fx (gH (ak (cC rfl F1.hc rfl rfl) aq) rfl Tq))))) ((J4 S).more Keep.app) aV (K1.trans Keep.app)
def RQ(T:Dm H k w v a e1)(hw:w≠vy):aQ (d+1) H 105 [.ref r, .ref k] (v,H):=
 bz (F:=LV) rfl rfl rfl (fx (fz (gO (cC rfl T rfl rfl) aA (dG hw)) (cC rfl T rfl rfl)))
def Ps(S:RdS H r l f tb rw dc t p fs es)(T:Dm H k vy (.str s) a e1)(hs:s∈names):∃k' es' H',aQ (d+3) H 105 [.ref r, .ref k] (.ref k',H')/\RdS H' r l f tb rw dc t p fs es'/\Sub es es'/\(∀n,gJ (Nw n H' es') H' (.ref k') (.sym s))/\Keep (λi=>i≠rw/\i≠dc) H H':=by
 refine jX (c4 (d:=d) S.ht hs) λk' es' H' e T' sb g K=>?_;have rn:r≠rw/\r≠dc:=by refine aM (S.ht.hr) λrs h zz=>?_;exact⟨ba S.hr h (λe=>nomatch e),ba S.hr S.ht.hd (λe=>nomatch e)⟩
 have ln:l≠rw/\l≠dc:=by refine aM (S.ht.hr) λrs h zz=>?_;exact⟨ba S.hl h (λe=>nomatch e),ba S.hl S.ht.hd (λe=>nomatch e)⟩
 refine gz (T'.hs s _ g) λj m ej hj=>?_;cases ej
 exact iR k' es' H' (bz (F:=LV) rfl rfl rfl (fx (eX (gO (cC rfl T rfl rfl) aA (gf rfl)) (gD (cC rfl S.hr rfl rfl) S.ht.ht rfl rfl rfl (ak (cC rfl T rfl rfl) aq) e)))) (⟨K.at_ _ _ rn S.hr,K.at_ _ _ ln S.hl,K.at_ _ _ ⟨S.fr,ba S.hf S.ht.hd (λe=>nomatch e)⟩ S.hf,T',S.fr⟩) sb (λn=>(i7 k' m rfl (⟨λc h=>by cases hj.symm.trans h;exact .inr rfl,λi s' h=>by cases hj.symm.trans h;exact g⟩) hj)) K
def Po(S:RdS H r l f tb rw dc t p [] es):aQ (d+1) H 106 [.ref r,v,a1] (.bool true,H):=
 bz (F:=CS) rfl rfl rfl (cL (ah rfl) rfl (cL (eI (ak (cC rfl S.hr rfl rfl) aq) (ku S.hf (aY _))) rfl (aC (eS (pk (cT rfl rfl))) (mw (gF rfl (dy (ah rfl) aA rfl)) (eQ (kL aA))))))
def BN(S:RdS H r l f tb rw dc t p (fs++ [.ref kf]) es)(hn:fs.length+1<=1000000)(F:FrOk H kf kt f rw w a st tl vs)(hw:w≠ [113,117,111,116,97,116,105,111,110])(hs:st≠2){o:Fl×Ls×Hp}
  (k:gI d [some (.ref r),some v,some a1,some v,some (.int (fs.length+1:Nat)),some (.ref kf),none,none] H (CS.body.drop 7) o):gI d [some (.ref r),some v,some a1,none,none,none,none,none] H CS.body o:=by
 have hl:(fs++ [AV.ref kf]).length=fs.length+1:=ag;have ln:∀{ls:Ls},ls[0]? =some (some (.ref r))->Re d ls H (.bi .len [.aT (.v 0) 48]) (.int (fs.length+1:Nat),H):=λh0=>by
  erw [<- hl]
  exact eI (ak (de (ah h0) S.hr rfl rfl) aq) (ku S.hf (by erw [hl];exact hn))
 have gt:iI H .gt (.int (fs.length+1:Nat)) (.int 0)=some true:=dT (by exact(eC [] [_] 0 (.ip (.ik 0) (.ik 1)) (.ic bh) .ho aS));have ix:rN H (.ref f) (.int (fs.length:Nat))=some (.ref kf):=fi S.hf (by erw [hl];exact hn) (by erw [dg (ay _),mT];rfl);refine cL (ah rfl) rfl (cL (ln rfl) rfl (aC (eS (mz (cT rfl gt) (gO (de (dD (de (ah rfl) S.hr rfl rfl) (bT (ah rfl) aA (show nY .sub (.int ((fs.length+1:Nat):Int)) (.int 1) H=some (.int (fs.length:Nat),H)from ?_)) ix) F.hc rfl rfl) aA (dG hw)))) (ij (gF rfl (dy (ah rfl) aA (kA (by exact(λzz=>(Dk [] [_] (.hz (.ic bh) (.ik 0) .ho) aS (wW zz))))))) (aC (eS (gF rfl (dy (ln rfl) (ah rfl) (dF (o7 _))))) (aC (iU (dD (de (ah rfl) S.hr rfl rfl) (p6 aA) (pR S.hf hn)) (eu rfl)) (aC (cV (gF rfl (dy (de (ah rfl) F.hc rfl rfl) aA (kA hs))) bb) k))))));show some (AV.int (((fs.length+1:Nat):Int)-1),H)=_
 erw [(show(((fs.length+1:Nat):Int)-1)=(fs.length:Int)from by exact(jW (eC [] [_] 0 (.is (.ic bh) (.ik 1)) (.ic ai) .ho aS) (eC [] [_] 0 (.ic ai) (.is (.ic bh) (.ik 1)) .ho aS)))];rfl
def Pp(S:RdS H r l f tb rw dc t p (fs++ [.ref kf]) es)(hn:fs.length+1<=1000000)(F:FrOk H kf kt f rw w a 0 tl vs)(hw:w≠ [113,117,111,116,97,116,105,111,110])(hv:vs.length<=1000000):∃H',aQ (d+1) H 106 [.ref r,v,a1] (.bool false,H')/\RdS H' r l f tb rw dc t p (fs++ [.ref kf]) es/\FrOk H' kf kt f rw w a 0 tl (vs++ [v])/\Keep (·≠kt) H H':=by
 have K:Keep (·≠kt) H (H.set kt (.list (vs++ [v]))):=Keep.set λo=>o rfl;exact CH _ (bz (F:=CS) rfl rfl rfl (BN S hn F hw (λe=>nomatch e) (aC (cV (gO (cC rfl F.hc rfl rfl) aA rfl) (ux (ft (cC rfl F.hc rfl rfl) F.hk (ah rfl) F.hk (aN hv)) bb)) (fx aA)))) (S.keep K (S.core F.hk rfl (λzz zy h=>nomatch h) (λzz zy zx h=>nomatch h) (λzz zy zx zw h=>nomatch h) F.nr (λzz h=>nomatch h)) (K.at_ _ _ F.nf.symm S.hf)) (⟨K.at_ _ _ (ba F.hc F.hk λe=>nomatch e) F.hc,cP (bx F.hk),F.nf,F.nr⟩) K
def Pq(S:RdS H r l f tb rw dc t p (fs++ [.ref kf]) es)(hn:fs.length+1<=1000000)(F:FrOk H kf kt f rw w a 1 tl vs)(hw:w≠ [113,117,111,116,97,116,105,111,110]):∃H',aQ (d+1) H 106 [.ref r,v,a1] (.bool false,H')/\RdS H' r l f tb rw dc t p (fs++ [.ref kf]) es/\FrOk H' kf kt f rw w a 2 v vs/\Keep (·≠kf) H H':=by
 have K:Keep (·≠kf) H ((H.set kf (JK w a kt 1 v)).set kf (JK w a kt 2 v)):=(Keep.set λo=>o rfl).trans (Keep.set λo=>o rfl);have g:(H.set kf (JK w a kt 1 v))[kf]? =_:=cP (bx F.hc);have nf:f≠kf:=ba S.hf F.hc (λe=>nomatch e);have nr:kf≠rw:=by refine aM (S.ht.hr) λrs h zz=>?_;exact ba F.hc h (λe=>nomatch e)
 exact CH _ (bz (F:=CS) rfl rfl rfl (BN S hn F hw (λe=>nomatch e) (aC (ff (gO (cC rfl F.hc rfl rfl) aA rfl) (lR (ah rfl) (jG (ah rfl) F.hc rfl rfl) (lR aA (jG (ah rfl) g rfl rfl) bb))) (fx aA)))) (S.keep K (S.core F.hc rfl (λzz zy h=>nomatch h) (λzz zy zx h=>nomatch h) (λzz zy zx zw h=>nomatch h) nr (λzz h=>nomatch h)) (K.at_ _ _ nf S.hf)) (⟨cP (bx g),K.at_ _ _ (ba F.hk F.hc λe=>nomatch e) F.hk,F.nf,F.nr⟩) K
def RT(S:RdS H r l f tb rw dc t p [] es):aQ (d+1) H 100 [.ref r,v] (v,H++ [.list []]):=
 bz (F:=OY) rfl rfl rfl (cL (ah rfl) rfl (aC (eS (GG (cC rfl S.hr rfl rfl) S.hf)) (fx (ah rfl))))
end
end
mutual
noncomputable abbrev Rg:S:=(.ite (.meth (.v 0) 73 [(.v 2),(.aT (.v 1) 40)]) [(.ret (.meth (.v 0) 80 [(.v 2)]))] [])
noncomputable abbrev Jn:List S:= [(.aS (.v 1) (.meth (.aT (.v 0) 46) 71 [])),(.ite (.j .eq (.aT (.v 1) 23) (.lit (.str [101,110,100]))) [(.ite (.j .eq (.aT (.v 0) 48) (.list [])) [(.ret (.lit (.obj 1)))] []), .fail] []),(.ite (.meth (.v 0) 72 [(.v 1)]) [.cont] []),(.ite (.j .eq (.aT (.v 1) 23) (.lit (.str [46]))) [(.expr (.meth (.v 0) 77 [(.v 1)])), .cont] []),(.aS (.v 2) (.ife (.j .eq (.aT (.v 1) 23) (.lit (.str [41]))) (.meth (.v 0) 78 [(.v 1)]) (.meth (.v 0) 79 [(.v 1)]))),Rg]
noncomputable abbrev Ea:S:= .while (.lit (.bool true)) Jn
noncomputable abbrev wR(r:Nat)(x1 x2:Option AV):Ls:= [some (.ref r),x1,x2,none,none]
abbrev PK(d r k:Nat)(v:AV)(H:Hp)(o:Fl×Ls×Hp):Prop:= ∃fl ls' H',Rs (d+22) (wR r (some (.ref k)) (some v)) H Rg (fl,ls',H')/\((∃u,fl= .ret u/\o=(.ret u,ls',H'))\/(fl= .next/\Rs (d+22) ls' H' Ea o))
abbrev Lb(n l rw dc f i:Nat):Prop:=i<n/\i≠l/\i≠rw/\i≠dc/\i≠f
abbrev Rd(d n:Nat)(H:Hp)(r l f tb rw dc:Nat)(t:List Nat)(fs:List AV)(es:List (List Nat×AV))(x1 x2:Option AV)(x:D)(rest:List Nat):Prop:=
 ∃v k w v0 a e q H' es',RdS H' r l f tb rw dc t q fs es'/\At t q rest/\gJ (Nw n H' es') H' v x/\Sub es es'/\Keep (Lb n l rw dc f) H H'/\Dm H' k w v0 a e/\∀o,PK d r k v H' o->Rs (d+22) (wR r x1 x2) H Ea o
end
section
mutual
variable{w':List Nat}{ls:Ls}
variable{d n:Nat}{H H' au:Hp}{vs:List AV}{xs:List D}{k r l f tb rw dc kf kt p:Nat}{t w s s' rest:List Nat}{fs:List AV}{es:List (List Nat×AV)}{v a tl a1 e1:AV}{st:Int}{x:D}{x1 x2:Option AV}{Q:Qv}
def Core.l_ne(S:RdS H r l f tb rw dc t p fs es):r≠l/\f≠l/\tb≠l/\rw≠l/\dc≠l:=by
 refine aM (S.ht.hr) λrs h zz=>?_;exact we (ba S.hr S.hl (λe=>nomatch e)) (ba S.hf S.hl (λe=>nomatch e)) (ba S.ht.ht S.hl (λe=>nomatch e)) (ba h S.hl (λe=>nomatch e)) (ba S.ht.hd S.hl (λe=>nomatch e))
def RdS.lex{q:Nat}(S:RdS H r l f tb rw dc t p fs es)(K:Keep (·≠l) H H')(L:Lx H' l t q):RdS H' r l f tb rw dc t q fs es:=
 have n:=Core.l_ne S
 ⟨K.at_ _ _ n.1 S.hr,L,K.at_ _ _ n.2.1 S.hf,S.ht.keep K n.2.2.1 n.2.2.2.1 n.2.2.2.2 λk m s h=>ba h S.hl (λe=>nomatch e),S.fr⟩
def z8(S:RdS H r l f tb rw dc t p fs es)(hl:t.length<=1000000)(ha:At t p s)(k:Sk s s')(T:Tok s' w Q rest):∃k v a e q bU au,RdS au r l f tb rw dc t q fs es/\At t q rest/\Dm au k w v a e/\Keep (·≠l) H au/\H.length<=bU.length/\Q bU au v/\∀o,gI (d+22) (wR r (some (.ref k)) x2) au (Jn.drop 1) o->gI (d+22) (wR r x1 x2) H Jn o:=by
 refine w1 (Uc (d:=d) T k S.hl hl ha) λk v b e q bU au e1 T1 L1 a1 K1 hn hq=>?_;exact Og k v _ _ q bU au (S.lex K1 L1) a1 T1 K1 hn hq (λo h=>cL (gD (cC rfl S.hr rfl rfl) S.hl rfl rfl rfl aq e1) rfl h)
def qM{o:Fl×Ls×Hp}(T:Dm H k w v a e1)(hw:w≠ [101,110,100])(h:gI (d+22) (wR r (some (.ref k)) x2) H (Jn.drop 2) o):gI (d+22) (wR r (some (.ref k)) x2) H (Jn.drop 1) o:=
 ij (gO (cC rfl T rfl rfl) aA (dG hw)) h
def v7{o:Fl×Ls×Hp}(S:RdS H r l f tb rw dc t p fs es)(T:Dm H k w v a e1)(hw:(([[40],[35,40],[39],[96],[44],[44,64]]:List (List Nat)).all λy=> !decide (y=w))=true)(hd:w≠ [46])(h:gI (d+22) (wR r (some (.ref k)) x2) H (Jn.drop 4) o):gI (d+22) (wR r (some (.ref k)) x2) H (Jn.drop 2) o:=
 ij (gF rfl (i5 rfl S.hr rfl rfl rfl (bW rfl aq) (JY (d:=d+20) T hw))) (ij (gO (de (ah rfl) T rfl rfl) aA (dG hd)) h)
def wo{o:Fl×Ls×Hp}(F:PK d r k v au o)(h:∀p,Rs (d+22) (wR r (some (.ref k)) (some v)) au Rg p->gI (d+22) ls H Jn p):Rs (d+22) ls H Ea o:=by
 refine vq F λfl ls' H' e c=>?_
 cases c using cW with
 | inl c=>refine aM c λu xq1 xq2=>?_;subst xq1;subst xq2;exact l9 (gF rfl aA) (h _ e)
 | inr c=>obtain⟨xq3,c⟩:=c;subst xq3;exact eR (gF rfl aA) (h _ e) c
def vF{s:S}{o:Fl×Ls×Hp}{d:Nat}(h:Rs d ls H s o):gI d ls H [s] o:=by
 obtain⟨fl,ls',H'⟩:=o
 cases fl using Fl.casesOn with
 | next=>exact aC h bb
 | cont=>exact pA h
 | ret v=>exact eQ h
def Keep.below{ok ok':Nat->Prop}(K:Keep ok H H')(h:∀k,k<H.length->ok' k->ok k):Keep ok' H H':=⟨K.len,λk c o e=>K.at_ k c (h k (bx e) o) e⟩
def HI(S:RdS H r l f tb rw dc t p fs es)(hl:t.length<=1000000)(ha:At t p s)(k:Sk s s')(T:Tok s' w (Mr x) rest)(hw:(([[40],[35,40],[39],[96],[44],[44,64]]:List (List Nat)).all λy=> !decide (y=w))=true)(hd:w≠ [46])(he:w≠ [101,110,100])(hc:w≠ [41])(hy:w≠vy):Rd d H.length H r l f tb rw dc t fs es x1 x2 x rest:=by
 refine w1 (z8 (d:=d) (x1:=x1) (x2:=x2) S hl ha k T) λk v a e q bU au S1 a1 T1 K1 hn hq go=>?_;exact wc v k w v a e q au es S1 a1 (hq _ _ hn) .refl (K1.weak λzz o=>o.2.1) T1 (λo F=>wo F λo h=>go _ (qM T1 he (v7 S1 T1 hw hd (cL (fz (gO (cC rfl T1 rfl rfl) aA (dG hc)) (i5 rfl S1.hr rfl rfl rfl (bW rfl aq) (RQ (d:=d+21) T1 hy))) rfl (vF h)))))
def Lw{y:List Nat}(S:RdS H r l f tb rw dc t p fs es)(hl:t.length<=1000000)(ha:At t p s)(k:Sk s s')(T:Tok s' vy (Tz y) rest)(hy:y∈names):Rd d H.length H r l f tb rw dc t fs es x1 x2 (.sym y) rest:=by
 refine w1 (z8 (d:=d) (x1:=x1) (x2:=x2) S hl ha k T) λk v a e q bU au S1 a1 T1 K1 hn hq go=>?_;subst hq;refine jX (Ps (d:=d+19) S1 T1 hy) λk' es' aP e2 S2 sb rp K2=>?_;have nk:k≠rw/\k≠dc:=by refine aM (S1.ht.hr) λrs h zz=>?_;exact⟨ba T1 h (λe=>nomatch e),ba T1 S1.ht.hd (λe=>nomatch e)⟩
 exact wc _ k vy _ a e q aP es' S2 a1 (rp _) sb ((K1.weak λzz o=>o.2.1).trans (K2.weak λzz o=>⟨o.2.2.1,o.2.2.2.1⟩)) (K2.at_ _ _ nk T1) (λo F=>wo F λo h=>go _ (qM T1 (λe=>nomatch e) (v7 S1 T1 rfl (λe=>nomatch e) (cL (fz (gO (cC rfl T1 rfl rfl) aA (dG (λe=>nomatch e))) (i5 rfl S1.hr rfl rfl rfl (bW rfl aq) e2)) rfl (vF h)))))
def vZ{u:List Nat}(hu:w= [40]/\u=tf\/w= [35,40]/\u=Dv)(S:RdS H r l f tb rw dc t p fs es)(hn:fs.length<=1000000)(hl:t.length<=1000000)(ha:At t p s)(k:Sk s s')(T:Tok s' w J8 rest):∃k kf kt a q H',RdS H' r l f tb rw dc t q (fs++ [.ref kf]) es/\At t q rest/\FrOk H' kf kt f rw u a 0 (.obj 0) []/\H.length<=kf/\H.length<=kt/\Keep (λi=>i≠l/\i≠f) H H'/\∀o,Rs (d+22) (wR r (some (.ref k)) x2) H' Ea o->Rs (d+22) (wR r x1 x2) H Ea o:=by
 refine w1 (z8 (d:=d) (x1:=x1) (x2:=x2) S hl ha k T) λk v a e q bU au S1 a1 T1 K1 zz zy go=>?_;have c:∃kf kt H',aQ (d+22) au 102 [.ref r, .ref k] (.bool true,H')/\RdS H' r l f tb rw dc t q (fs++ [.ref kf]) es/\FrOk H' kf kt f rw u a 0 (.obj 0) []/\au.length<=kf/\au.length<=kt/\Keep (·≠f) au H':=by
  cases hu using cW with
  | inl h=>obtain⟨xq4,xq5⟩:=h;subst xq4;subst xq5;exact Pw (d:=d+20) S1 hn T1
  | inr h=>obtain⟨xq6,xq7⟩:=h;subst xq6;subst xq7;exact Pv (d:=d+20) S1 hn T1
 have he:w≠ [101,110,100]:=by cases hu using cW with
  | inl h=>erw [h.1];exact λe=>nomatch e
  | inr h=>erw [h.1];exact λe=>nomatch e
 refine Gn c λkf kt H' e2 S2 F h1 h2 K2=>?_;exact Ac k kf kt a q H' S2 a1 F (aj K1.len h1) (aj K1.len h2) ((K1.weak λzz o=>o.1).trans (K2.weak λzz o=>o.2)) (λo h=>uF (gF rfl aA) (go _ (qM T1 he (pA (ff (gF rfl (i5 rfl S1.hr rfl rfl rfl (bW rfl aq) e2)) (pA A9))))) h)
def Lz(S:RdS H r l f tb rw dc t p (fs++ [.ref kf]) es)(hn:fs.length+1<=1000000)(F:FrOk H kf kt f rw tf a 0 tl vs)(hv:vs≠ [])(hl:t.length<=1000000)(ha:At t p s)(k:Sk s s')(T:Tok s' [46] J8 rest):∃k q H',RdS H' r l f tb rw dc t q (fs++ [.ref kf]) es/\At t q rest/\FrOk H' kf kt f rw tf a 1 tl vs/\Keep (λi=>i≠l/\i≠kf) H H'/\∀o,Rs (d+22) (wR r (some (.ref k)) x2) H' Ea o->Rs (d+22) (wR r x1 x2) H Ea o:=by
 refine w1 (z8 (d:=d) (x1:=x1) (x2:=x2) S hl ha k T) λk v b e q bU au S1 a1 T1 K1 zz zy go=>?_;have F1:=F.keep K1 (ba F.hc S.hl λe=>nomatch e) (ba F.hk S.hl λe=>nomatch e);refine B4 (RR (d:=d+21) (v:= .ref k) S1 hn F1 hv) λH' e2 S2 F2 K2=>?_;exact iR k q H' S2 a1 F2 ((K1.weak λzz o=>o.1).trans (K2.weak λzz o=>o.2)) (λo h=>uF (gF rfl aA) (go _ (qM T1 (λe=>nomatch e) (ij (gF rfl (i5 rfl S1.hr rfl rfl rfl (bW rfl aq) (JY (d:=d+20) T1 rfl))) (pA (ff (gO (cC rfl T1 rfl rfl) aA (gf rfl)) (ux (i5 rfl S1.hr rfl rfl rfl (ak (ah rfl) aq) e2) (pA A9))))))) h)
def Oy(S:RdS H r l f tb rw dc t p (fs++ [.ref kf]) es)(hn:fs.length+1<=1000000)(F:FrOk H kf kt f rw w a 0 tl vs)(hw:w≠ [113,117,111,116,97,116,105,111,110])(hv:vs.length<=1000000){v0:AV}(T:Dm H k w' v0 a1 e1):∃H',RdS H' r l f tb rw dc t p (fs++ [.ref kf]) es/\FrOk H' kf kt f rw w a 0 tl (vs++ [v])/\Keep (·≠kt) H H'/\∀o,Rs (d+22) (wR r (some (.ref k)) (some v)) H' Ea o->PK d r k v H o:=by
 refine B4 (Pp (d:=d+21) (v:=v) (a1:=a1) S hn F hw hv) λH' e S' F' K=>?_;exact CH H' S' F' K (λo h=>(Ad _ _ _ (cV (gF rfl (i5 rfl S.hr rfl rfl rfl (bW rfl (ak (cC rfl T rfl rfl) aq)) e)) bb) (.inr ⟨rfl,h⟩)))
def Oz(S:RdS H r l f tb rw dc t p (fs++ [.ref kf]) es)(hn:fs.length+1<=1000000)(F:FrOk H kf kt f rw w a 1 tl vs)(hw:w≠ [113,117,111,116,97,116,105,111,110]){v0:AV}(T:Dm H k w' v0 a1 e1):∃H',RdS H' r l f tb rw dc t p (fs++ [.ref kf]) es/\FrOk H' kf kt f rw w a 2 v vs/\Keep (·≠kf) H H'/\∀o,Rs (d+22) (wR r (some (.ref k)) (some v)) H' Ea o->PK d r k v H o:=by
 refine B4 (Pq (d:=d+21) (v:=v) (a1:=a1) S hn F hw) λH' e S' F' K=>?_;exact CH H' S' F' K (λo h=>(Ad _ _ _ (cV (gF rfl (i5 rfl S.hr rfl rfl rfl (bW rfl (ak (cC rfl T rfl rfl) aq)) e)) bb) (.inr ⟨rfl,h⟩)))
def Ox(S:RdS H r l f tb rw dc t p [] es){v0:AV}(T:Dm H k w' v0 a1 e1):PK d r k v H (.ret v,wR r (some (.ref k)) (some v),H++ [.list []]):=
 (Ad _ _ _ (ff (gF rfl (i5 rfl S.hr rfl rfl rfl (bW rfl (ak (cC rfl T rfl rfl) aq)) (Po (d:=d+21) S))) (fx (i5 rfl S.hr rfl rfl rfl (bW rfl aq) (RT (d:=d+21) S)))) (.inl (bI _ rfl rfl)))
end
end
section
mutual
variable{c:Nat}{u:List Nat}
variable{d n m:Nat}{H H' au:Hp}{vs:List AV}{xs:List D}{k r l f tb rw dc kf kt p:Nat}{t w s s' rest:List Nat}{fs:List AV}{es es':List (List Nat×AV)}{v a tz a1 e1:AV}{st:Int}{x y:D}{x1 x2:Option AV}{Q:Qv}
structure Low(l rw dc f m:Nat):Prop where
 l:l<m
 rw:rw<m
 dc:dc<m
 f:f<m
def RdS.low(S:RdS H r l f tb rw dc t p fs es):Low l rw dc f H.length:=by
 refine aM (S.ht.hr) λrs h zz=>?_;exact⟨bx S.hl,bx h,bx S.ht.hd,bx S.hf⟩
def Low.le(h:Low l rw dc f n)(e:n<=m):Low l rw dc f m:=⟨ao h.l e,ao h.rw e,ao h.dc e,ao h.f e⟩
def RdS.has(S:RdS H r l f tb rw dc t p fs es)(h:Low l rw dc f m):iD m H (Lb H.length l rw dc f):=by
 refine aM (S.ht.hr) λrs hr zz=>?_;exact λk c e o=>(we (bx e) (iD.ne S.hl h.l rfl k c e o) (iD.ne hr h.rw rfl k c e o) (iD.ne S.ht.hd h.dc rfl k c e o) (iD.ne S.hf h.f rfl k c e o))
def jI.move{n':Nat}{ok:Nat->Prop}(r:jI (Nw n H es) H vs xs)(K:Keep ok H H')(h:iD n H ok)(s:Sub es es')(hn:n'<=n):jI (Nw n' H' es') H' vs xs:=r.imp λzz zy q=>q.move K h s hn
def v5(S:RdS H r l f tb rw dc t p (fs++ [.ref kf]) es)(hn:fs.length+1<=1000000)(F:FrOk H kf kt f rw tf a st tz vs)(hs:st≠1)(hv:vs.length<=1000000)(hl:t.length<=1000000)(ha:At t p s)(k:Sk s s')(T:Tok s' [41] J8 rest)(low:Low l rw dc f m)(hnm:n<=m)(rs:jI (Nw m H es) H vs xs)(q:gJ (Nw m H es) H tz x):Rd d n H r l f tb rw dc t fs es x1 x2 (xs.foldr .pair x) rest:=by
 refine w1 (z8 (d:=d) (x1:=x1) (x2:=x2) S hl ha k T) λk v b e q' bU au S1 a1 T1 K1 zz zy go=>?_;have hL:iD m H (·≠l):=iD.ne S.hl low.l rfl;have F1:=F.keep K1 (ba F.hc S.hl λe=>nomatch e) (ba F.hk S.hl λe=>nomatch e);refine fy (Pu (d:=d+19) (v:= .ref k) S1 hn F1 hs hv low.f (rs.move K1 hL .refl (ay _)) (q.move K1 hL .refl (ay _))) λv' aP e2 S2 rp K2=>?_;exact wc v' k _ _ _ _ q' aP es S2 a1 (rp.move .refl (ok:=all) iD.lt .refl hnm) .refl ((K1.weak λzz o=>o.2.1).trans (K2.weak λzz o=>o.2.2.2.2)) (K2.at_ _ _ (ba T1 S1.hf λe=>nomatch e) T1) (λo F=>wo F λo h=>go _ (qM T1 (λe=>nomatch e) (v7 S1 T1 rfl (λe=>nomatch e) (cL (eX (gO (cC rfl T1 rfl rfl) aA (gf rfl)) (i5 rfl S1.hr rfl rfl rfl (bW rfl aq) e2)) rfl (vF h)))))
def Lv{u z:AV}(S:RdS H r l f tb rw dc t p (fs++ [.ref kf]) es)(hn:fs.length+1<=1000000)(F:FrOk H kf kt f rw Dv a 0 tz [u,z])(hl:t.length<=1000000)(ha:At t p s)(k:Sk s s')(T:Tok s' [41] J8 rest)(low:Low l rw dc f m)(hnm:n<=m)(hkt:n<=kt)(rx:gJ (Nw m H es) H u x)(ry:gJ (Nw m H es) H z y):Rd d n H r l f tb rw dc t fs es x1 x2 (.vec x y) rest:=by
 refine w1 (z8 (d:=d) (x1:=x1) (x2:=x2) S hl ha k T) λk v b e q' bU au S1 a1 T1 K1 zz zy go=>?_;have hL:iD m H (·≠l):=iD.ne S.hl low.l rfl;have F1:=F.keep K1 (ba F.hc S.hl λe=>nomatch e) (ba F.hk S.hl λe=>nomatch e);refine fy (Pt (d:=d+19) (v:= .ref k) S1 hn F1) λk' aP e2 S2 hk' K2=>?_;have hF:iD m au (·≠f):=iD.ne S1.hf low.f rfl;have hkt2:=K2.at_ _ _ F1.nf F1.hk;exact wc _ k _ _ _ _ q' aP es S2 a1 ((HQ k' kt u z rfl (jY hk' rfl (λzz zy h=>nomatch h)) hk' (⟨λc zz=> .inl hkt,λi s e=>nomatch hkt2.symm.trans e⟩) hkt2 ((rx.move K1 hL .refl (ay _)).move K2 hF .refl hnm) ((ry.move K1 hL .refl (ay _)).move K2 hF .refl hnm))) .refl ((K1.weak λzz o=>o.2.1).trans (K2.weak λzz o=>o.2.2.2.2)) (K2.at_ _ _ (ba T1 S1.hf λe=>nomatch e) T1) (λo F=>wo F λo h=>go _ (qM T1 (λe=>nomatch e) (v7 S1 T1 rfl (λe=>nomatch e) (cL (eX (gO (cC rfl T1 rfl rfl) aA (gf rfl)) (i5 rfl S1.hr rfl rfl rfl (bW rfl aq) e2)) rfl (vF h)))))
abbrev PR(x:D):Prop:= ∀{d:Nat} {H:Hp} {r l f tb rw dc p:Nat} {t s rest:List Nat} {fs:List AV} {es:List (List Nat×AV)} {x1 x2:Option AV},RdS H r l f tb rw dc t p fs es->t.length<=1000000->At t p s->Sk s (tx true x++rest)->ie rest->fs.length+sz x<=900000->Rd d H.length H r l f tb rw dc t fs es x1 x2 x rest
abbrev TR(x:D):Prop:= ∀{d n m:Nat} {H:Hp} {r l f tb rw dc p kf kt:Nat} {t rest:List Nat} {fs vs:List AV} {xs:List D} {es:List (List Nat×AV)} {x1 x2:Option AV} {a:AV},RdS H r l f tb rw dc t p (fs++ [.ref kf]) es->t.length<=1000000->At t p (tl true x++rest)->ie rest->fs.length+1+sz x<=900000->FrOk H kf kt f rw tf a 0 (.obj 0) vs->vs≠ []->vs.length+sz x<=900000->Low l rw dc f m->n<=m->m<=H.length->kf<m->kt<m->n<=kf->n<=kt->jI (Nw m H es) H vs xs->Rd d n H r l f tb rw dc t fs es x1 x2 (xs.foldr .pair x) rest
def ie.cons(h:qc.contains c=true):ie (c::rest):=λc' e=>by(replace e:=af e;subst e);exact h
def iN(h:(nX.contains c || decide (c=59))=false):Sk (c::rest) (c::rest):= .stop (eP.mp h).1 (of_decide_eq_false (eP.mp h).2)
def FrOk.read(S:RdS H r l f tb rw dc t p fs es)(F:FrOk H kf kt f rw u a st tz vs)(K:Keep (Lb H.length l rw dc f) H H'):FrOk H' kf kt f rw u a st tz vs:=by
 refine aM (S.ht.hr) λrs hr zz=>?_;exact F.keep K (we (bx F.hc) (ba F.hc S.hl (λe=>nomatch e)) (ba F.hc hr (λe=>nomatch e)) (ba F.hc S.ht.hd (λe=>nomatch e)) (ba F.hc S.hf (λe=>nomatch e))) ⟨bx F.hk,ba F.hk S.hl (λe=>nomatch e),F.nr,ba F.hk S.ht.hd (λe=>nomatch e),F.nf⟩
def Lb.up{i:Nat}(h:Lb n l rw dc f i)(e:n<=m):Lb m l rw dc f i:=⟨ao h.1 e,h.2⟩
def Iu(P:PR x)(S:RdS H r l f tb rw dc t p (fs++ [.ref kf]) es)(hl:t.length<=1000000)(ha:At t p s)(k:Sk s (tx true x++rest))(hs:ie rest)(hn:fs.length+1+sz x<=900000)(F:FrOk H kf kt f rw u a 0 tz vs)(hu:u≠ [113,117,111,116,97,116,105,111,110])(hv:vs.length<=1000000)(hm:m<=H.length)(h2:kt<m)(h4:n<=kt)(hnm:n<=m):∃v k q H' es',RdS H' r l f tb rw dc t q (fs++ [.ref kf]) es'/\At t q rest/\gJ (Nw m H' es') H' v x/\Sub es es'/\Keep (λi=>Lb H.length l rw dc f i/\i≠kt) H H'/\FrOk H' kf kt f rw u a 0 tz (vs++ [v])/\∀o,Rs (d+22) (wR r (some (.ref k)) (some v)) H' Ea o->Rs (d+22) (wR r x1 x2) H Ea o:=by
 refine wZ (P (d:=d) (x1:=x1) (x2:=x2) S hl ha k hs (by erw [ag];exact hn)) λv k w v0 b e q au tK S1 a1 r1 sb K1 T1 go=>?_;refine B4 (Oy (d:=d) (v:=v) S1 (by exact(bF bh cY [(aK bh az,aI 900000)] aS hn)) (F.read S K1) hu hv T1) λaP S2 F2 K2 go2=>?_;exact EW v k q aP tK S2 a1 (r1.move K2 (iD.ne (F.read S K1).hk (ao h2 hm) rfl) .refl hm) sb ((K1.weak λzz o=>o.1).trans (K2.weak λzz o=>o.2)) F2 (λo h=>go o (go2 o h))
def iT(P:PR x)(h:tl true x= [32,46,32]++tx true x++ [41])(hx:∃c u,tx true x=c::u/\(nX.contains c || decide (c=59))=false):TR x:=by
 intro d n m H r l f tb rw dc p kf kt t rest fs vs xs es x1 x2 a S hl ha hs hn F hv hvn low hnm hm h1 h2 h3 h4 rs;refine gz hx λc u hx hc=>?_;rw[h,aB,aB]at ha;refine jX (Lz (d:=d) (x1:=x1) (x2:=x2) (kf:=kf) S (by exact(bF bh cY [(aK bh az,aI 900000)] aS hn)) F hv hl ha (.blank rfl (by decide) (iN rfl)) (GE (r:=32::(tx true x++([41]++rest))) (ie.cons rfl))) λk q au S1 a1 F1 K1 go1=>?_;have hK:iD m H (λi=>i≠l/\i≠kf):=iD.and (iD.ne S.hl low.l rfl) (iD.ne F.hc h1 rfl);refine wZ (P (d:=d) (x1:=some (.ref k)) (x2:=x2) (rest:= [41]++rest) S1 hl a1 (.blank rfl (by decide) (by erw [hx];exact iN hc)) (ie.cons rfl) (by erw [ag];exact hn)) λv k2 w v0 b e q2 aP pZ S2 a2 r2 sb K2 T2 go2=>?_;refine B4 (Oz (d:=d) (v:=v) S2 (by exact(bF bh cY [(aK bh az,aI 900000)] aS hn)) (F1.read S1 K2) (λe=>nomatch e) T2) λdM S3 F3 K3 go3=>?_;have hm1:m<=au.length:=aj hm K1.len;have hm2:m<=aP.length:=aj hm1 K2.len;have hk3:iD m aP (·≠kf):=iD.ne (F1.read S1 K2).hc h1 rfl;have rs3:jI (Nw m dM pZ) dM vs xs:=((rs.move K1 hK .refl (ay _)).move K2 (S1.has low) sb (ay _)).move K3 hk3 .refl (ay _);refine wZ (v5 (d:=d) (n:=n) (x1:=some (.ref k2)) (x2:=some v) S3 (by exact(bF bh cY [(aK bh az,aI 900000)] aS hn)) F3 (λe=>nomatch e) (by exact(bF ai cY [(aK ai az,aI 900000)] aS hvn)) hl a2 (iN rfl) (lZ rfl) low hnm rs3 ((r2.move .refl (ok:=all) iD.lt .refl hm1).move K3 hk3 .refl (ay _))) λv4 k4 w4 v04 b4 e4 q4 mL pY S4 a4 r4 sb4 K4 T4 go4=>?_;exact wc v4 k4 w4 v04 b4 e4 q4 mL pY S4 a4 r4 (sb.trans sb4) ((K1.weak λi o=>⟨o.2.1,aE (ao o.1 h3)⟩).trans ((K2.weak λi o=>o.up (aj hnm hm1)).trans ((K3.weak λi o=>aE (ao o.1 h3)).trans K4))) T4 (λo F=>go1 o (go2 o (go3 o (go4 o F))))
def Dz:TR .empty:=by
 intro d n m H r l f tb rw dc p kf kt t rest fs vs xs es x1 x2 a S hl ha hs hn F hv hvn low hnm hm h1 h2 h3 h4 rs;have ha':At t p (41::rest):=ha;exact v5 S (by lia) F (λe=>nomatch e) (by lia) hl ha' (iN rfl) (lZ rfl) low hnm rs rfl
def GA{b:D}(P:PR x)(T:TR b)(hx:∃c u,tx true x=c::u/\(nX.contains c || decide (c=59))=false)(ht:∀r,ie (tl true b++r)):TR (.pair x b):=by
 intro d n m H r l f tb rw dc p kf kt t rest fs vs xs es x1 x2 a S hl ha hs hn F hv hvn low hnm hm h1 h2 h3 h4 rs;have hz:sz (D.pair x b)=3+sz x+sz b:=rfl;refine gz hx λc u hx hc=>?_;have ha':At t p (32::(tx true x++(tl true b++rest))):=by
  rw[show tl true (D.pair x b)= [32]++tx true x++tl true b from rfl,aB,aB]at ha;exact ha
 refine w2 (Iu (d:=d) (n:=n) (x1:=x1) (x2:=x2) P S hl ha' (.blank rfl (by decide) (by erw [hx];exact iN hc)) (ht _) (by exact(gV (aK bh az) (aI 900000) [((aK (aK (aI 3) az) bH),cQ),(aK bh cQ,aI 900000)] aS (lz hz) hn)) F (λe=>nomatch e) (by exact(bF ai cY [(aK ai az,aI 900000)] aS hvn)) hm h2 h4 hnm) λv k q au tK S1 a1 r1 sb K1 F1 go=>?_;have rs1:jI (Nw m au tK) au vs xs:=rs.move K1 (iD.and (S.has low) (iD.ne F.hk h2 rfl)) sb (ay _);refine wZ (T (d:=d) (n:=n) (x1:=some (.ref k)) (x2:=some v) S1 hl a1 hs (by exact(gV (aK bh az) (aI 900000) [((aK (aK (aI 3) bH) az),cQ),(aK bh cQ,aI 900000)] aS (lz hz) hn)) F1 (λe=>nomatch (q7.mp e).2) (by erw [ag];show _+1+_<=_;exact(gV (aK bh az) (aI 900000) [((aK (aK (aI 3) bH) az),cQ),(aK ai cQ,aI 900000)] aS (lz hz) hvn)) low hnm (aj hm K1.len) h1 h2 h3 h4 (rs1.add r1)) λv4 k4 w4 v04 b4 e4 q4 mL pY S4 a4 r4 sb4 K4 T4 go4=>?_;rw[List.foldr_append]at r4;exact wc v4 k4 w4 v04 b4 e4 q4 mL pY S4 a4 r4 (sb.trans sb4) ((K1.weak λi o=>⟨o.up (aj hnm hm),aE (ao o.1 h4)⟩).trans K4) T4 (λo F=>go o (go4 o F))
end
end
mutual
def G6{x b:D}(P:PR x)(T:TR b)(hx:∃c u,tx true x=c::u/\(nX.contains c || decide (c=59))=false)(ht:∀r,ie (tl true b++r)):PR (.pair x b):=by
 intro d H r l f tb rw dc p t s rest fs es x1 x2 S hl ha hk hs hn;have hz:sz (D.pair x b)=3+sz x+sz b:=rfl;refine gz hx λc u hx hc=>?_;have hk':Sk s (40::(tx true x++(tl true b++rest))):=by
  rw[show tx true (D.pair x b)= [40]++tx true x++tl true b from rfl,aB,aB]at hk;exact hk
 refine Do (vZ (d:=d) (x1:=x1) (x2:=x2) (.inl ⟨rfl,rfl⟩) S (by exact(bF ai cY [(aK ai az,aI 900000)] aS hn)) hl ha hk' (lZ rfl)) λk0 kf kt a q0 bU S0 a0 F0 hf0 ht0 K0 go0=>?_;refine w2 (Iu (d:=d) (n:=H.length) (m:=bU.length) (x1:=some (.ref k0)) (x2:=x2) P S0 hl a0 (by erw [hx];exact iN hc) (ht _) (by exact(gV (aK bh az) (aI 900000) [((aK (aK (aI 3) az) bH),cQ),(aK ai cQ,aI 900000)] aS (lz hz) hn)) F0 (λe=>nomatch e) (aY _) (ay _) (bx F0.hk) ht0 K0.len) λv k q au tK S1 a1 r1 sb K1 F1 go1=>?_;refine wZ (T (d:=d) (n:=H.length) (m:=bU.length) (x1:=some (.ref k)) (x2:=some v) S1 hl a1 hs (by exact(gV (aK bh az) (aI 900000) [((aK (aK (aI 3) bH) az),cQ),(aK ai cQ,aI 900000)] aS (lz hz) hn)) F1 (λe=>nomatch (q7.mp e).2) (by show 1+_<=_;exact(gV (aK (aI 1) ai) (aI 900000) [((aK (aK (aI 3) az) ai),bH),(aK cQ bH,aI 900000)] aS (lz hz) hn)) (S.low.le K0.len) K0.len K1.len (bx F0.hc) (bx F0.hk) hf0 ht0 (jI.nil.add r1)) λv4 k4 w4 v04 b4 e4 q4 mL pY S4 a4 r4 sb4 K4 T4 go4=>?_;exact wc v4 k4 w4 v04 b4 e4 q4 mL pY S4 a4 r4 (sb.trans sb4) ((K0.weak λi o=>⟨o.2.1,o.2.2.2.2⟩).trans ((K1.weak λi o=>⟨o.up K0.len,aE (ao o.1 ht0)⟩).trans K4)) T4 (λo F=>go0 o (go1 o (go4 o F)))
def Ee:PR .empty:=by
 intro d H r l f tb rw dc p t s rest fs es x1 x2 S hl ha hk hs hn;have hz:sz D.empty=1:=rfl;have hk':Sk s (40::41::rest):=hk;refine Do (vZ (d:=d) (x1:=x1) (x2:=x2) (.inl ⟨rfl,rfl⟩) S (by lia) hl ha hk' (lZ rfl)) λk0 kf kt a q0 bU S0 a0 F0 hf0 ht0 K0 go0=>?_;refine wZ (v5 (d:=d) (n:=H.length) (m:=bU.length) (x:= .empty) (x1:=some (.ref k0)) (x2:=x2) S0 (by exact ao hn (ab rfl)) F0 (λe=>nomatch e) (aY _) hl a0 (iN rfl) (lZ rfl) (S.low.le K0.len) K0.len jI.nil rfl) λv4 k4 w4 v04 b4 e4 q4 mL pY S4 a4 r4 sb4 K4 T4 go4=>?_;exact wc v4 k4 w4 v04 b4 e4 q4 mL pY S4 a4 r4 sb4 ((K0.weak λi o=>⟨o.2.1,o.2.2.2.2⟩).trans K4) T4 (λo F=>go0 o (go4 o F))
def KV{x b:D}(P:PR x)(Q:PR b)(hx:∃c u,tx true x=c::u/\(nX.contains c || decide (c=59))=false)(hb:∃c u,tx true b=c::u/\(nX.contains c || decide (c=59))=false):PR (.vec x b):=by
 intro d H r l f tb rw dc p t s rest fs es x1 x2 S hl ha hk hs hn;have hz:sz (D.vec x b)=4+sz x+sz b:=rfl;refine gz hx λc u hx hc=>?_;refine gz hb λc' u' hb hc'=>?_;have hk':Sk s (35::40::(tx true x++(32::(tx true b++(41::rest))))):=by
  rw[show tx true (D.vec x b)= [35,40]++tx true x++ [32]++tx true b++ [41]from rfl,aB,aB,aB,aB]at hk;exact hk
 refine Do (vZ (d:=d) (x1:=x1) (x2:=x2) (.inr ⟨rfl,rfl⟩) S (by exact(bF ai cY [(aK ai az,aI 900000)] aS hn)) hl ha hk' GB) λk0 kf kt a q0 bU S0 a0 F0 hf0 ht0 K0 go0=>?_;refine w2 (Iu (d:=d) (n:=H.length) (m:=bU.length) (x1:=some (.ref k0)) (x2:=x2) P S0 hl a0 (by erw [hx];exact iN hc) (ie.cons rfl) (by exact(gV (aK bh az) (aI 900000) [((aK (aK (aI 4) az) bH),cQ),(aK ai cQ,aI 900000)] aS (lz hz) hn)) F0 (λe=>nomatch e) (aY _) (ay _) (bx F0.hk) ht0 K0.len) λv k q au tK S1 a1 r1 sb K1 F1 go1=>?_;refine w2 (Iu (d:=d) (n:=H.length) (m:=bU.length) (x1:=some (.ref k)) (x2:=some v) Q S1 hl a1 (.blank rfl (by decide) (by erw [hb];exact iN hc')) (ie.cons rfl) (by exact(gV (aK bh az) (aI 900000) [((aK (aK (aI 4) bH) az),cQ),(aK ai cQ,aI 900000)] aS (lz hz) hn)) F1 (λe=>nomatch e) (by show 1<=_;exact eF ..) K1.len (bx F0.hk) ht0 K0.len) λw k2 q2 aP pZ S2 a2 r2 sb2 K2 F2 go2=>?_;have r1':gJ (Nw bU.length aP pZ) aP v x:=r1.move K2 (iD.and (S1.has (S.low.le K0.len)) (iD.ne F1.hk (bx F0.hk) rfl)) sb2 (ay _);refine wZ (Lv (d:=d) (n:=H.length) (m:=bU.length) (x1:=some (.ref k2)) (x2:=some w) S2 (by exact(bF bh cY [(aK ai az,aI 900000)] aS hn)) F2 hl a2 (iN rfl) (lZ rfl) (S.low.le K0.len) K0.len ht0 r1' r2) λv4 k4 w4 v04 b4 e4 q4 mL pY S4 a4 r4 sb4 K4 T4 go4=>?_;exact wc v4 k4 w4 v04 b4 e4 q4 mL pY S4 a4 r4 ((sb.trans sb2).trans sb4) ((K0.weak λi o=>⟨o.2.1,o.2.2.2.2⟩).trans ((K1.weak λi o=>⟨o.up K0.len,aE (ao o.1 ht0)⟩).trans ((K2.weak λi o=>⟨o.up (aj K0.len K1.len),aE (ao o.1 ht0)⟩).trans K4))) T4 (λo F=>go0 o (go1 o (go2 o (go4 o F))))
def rU{x:D}{w:List Nat}(T:∀rest,ie rest->Tok (tx true x++rest) w (Mr x) rest)(hw:(([[40],[35,40],[39],[96],[44],[44,64]]:List (List Nat)).all λy=> !decide (y=w))=true)(hd:w≠ [46])(he:w≠ [101,110,100])(hc:w≠ [41])(hy:w≠vy):PR x:=by
 intro d H r l f tb rw dc p t s rest fs es x1 x2 S hl ha hk hs hn;exact HI S hl ha hk (T rest hs) hw hd he hc hy
def zJ{x:D}{w:List Nat}(hw:tx true x=w)(N:NumW w)(h:MT w x):PR x:=
 fun{d H r l f tb rw dc p t s rest fs es x1 x2}=>rU (w:=Em) (λrest hs=>by rw[hw];exact GC N h hs) rfl (λe=>nomatch e) (λe=>nomatch e) (λe=>nomatch e) (λe=>nomatch e)
def Af{w:List Nat}(N:NumW w):∃c u,w=c::u/\(nX.contains c || decide (c=59))=false:=by
 have t:∀c<58,45<=c->(nX.contains c || decide (c=59))=false:=by decide
 refine gz (N.hd) λc u e h=>?_;refine kX c u e ?_
 cases h using cW with
 | inl h=>exact t c h.2 (aj (by decide) h.1)
 | inr h=>erw [h];rfl
def zS{i:Int}(hi:i.natAbs<=1000):NumW (dH i):=by
 have:=xG hi (u:= []) (λzz m=>nomatch m) (aY _);rw[br]at this;exact this
def El{p:Int}{n:Nat}(hp:p.natAbs<=1000)(hn:n<=1000):NumW (dH p++47::bR n):=by
 refine vr (jO hn) λh1 h2 h3 h4=>?_;exact xG hp (λc m=>(aR.mp m).elim (λe=> .inr (.inr e)) λm=> .inl (h1 c m)) (by erw [aJ];exact(cA bh (aI 900) [(ai,aI 4)] aS h3))
def sf{p:Int}{n:Nat}:tx true (.ratio p n)=dH p++47::bR n:=by
 show dH p++ [47]++bR n=_
 erw [aB];rfl
def Gu:(names.all λw=>match w with | c::_=> !(nX.contains c || decide (c=59)) | []=>false)=true:=by decide+kernel
def gQ:∀(x:D),x.good->∃c u,tx true x=c::u/\(nX.contains c || decide (c=59))=false
 | .bool b,_=>(kX 35 _ rfl rfl)
 | .int i,g=>Af (zS (by have:-1000<=i/\i<1000:=g;exact(pL (eC [_] [] 0 (.ik 0) (.ip (.iv 0) (.ic (aI 1000))) (.hz (.ik (-1000)) (.iv 0) .ho) (by kernel_rfl) this.1) (eC [_] [] 0 (.iv 0) (.ic (aI 1000)) (.hz (.ip (.iv 0) (.ik 1)) (.ik 1000) .ho) (by kernel_rfl) this.2))))
 | .empty,_=>(kX 40 _ rfl rfl)
 | .ratio p q,g=>by
  have g:2<=q/\q<10/\∃k:Int,-10<=k/\k<10/\p=q*k+1:=g;refine Gp (pD g.1 g.2.1 g.2.2) λn xq1 h1 h2 h3 h4=>?_;subst xq1
  erw [sf]
  exact Af (El h3 h2)
 | .real m e,g=>Af (uL g)
 | .sym s,g=>by
  have h:=aT.mp Gu s g
  cases s using aw with
  | nil=>exact nomatch h
  | cons c u=>exact kX c u rfl (m7 h)
 | .char c,_=>(kX 35 _ rfl rfl)
 | .text cs,_=>(kX 34 _ rfl rfl)
 | .vec a b,_=>(kX 35 _ rfl rfl)
 | .pair a b,_=>(kX 40 _ rfl rfl)
def AX(x:D)(r:List Nat):ie (tl true x++r):=by
 induction x using D.casesOn <;> exact ie.cons (c:=_) rfl
def sS:∀(x:D),x.good->PR x/\TR x
 | .bool b,g=>have P:PR (.bool b):=rU (w:=Mf) (λrest hs=>DD (c:=if b then 116 else 102) (by induction b using aG <;> rfl)) rfl (λe=>nomatch e) (λe=>nomatch e) (λe=>nomatch e) (λe=>nomatch e)
  ⟨P,iT P rfl (gQ _ g)⟩
 | .int i,g=>have h:i.natAbs<=1000:=by have:-1000<=i/\i<1000:=g;exact(pL (eC [_] [] 0 (.ik 0) (.ip (.iv 0) (.ic (aI 1000))) (.hz (.ik (-1000)) (.iv 0) .ho) (by kernel_rfl) this.1) (eC [_] [] 0 (.iv 0) (.ic (aI 1000)) (.hz (.ip (.iv 0) (.ik 1)) (.ik 1000) .ho) (by kernel_rfl) this.2))
  have P:PR (.int i):=zJ (w:=dH i) rfl (zS h) (Hm h)
  ⟨P,iT P rfl (gQ _ g)⟩
 | .empty,_=>⟨Ee,Dz⟩
 | .ratio p q,g=>by
  have g':2<=q/\q<10/\∃k:Int,-10<=k/\k<10/\p=q*k+1:=g;refine Gp (pD g'.1 g'.2.1 g'.2.2) λn xq2 h1 h2 h3 h4=>?_;subst xq2;have P:PR (.ratio p n):=zJ sf (El h3 h2) (Cs h3 h1 h2 h4);exact⟨P,iT P rfl (gQ _ g)⟩
 | .real m e,g=>have P:PR (.real m e):=zJ (w:=fQ m e) rfl (uL g) (Ek g)
  ⟨P,iT P rfl (gQ _ g)⟩
 | .sym s,g=>have P:PR (.sym s):=fun{d H r l f tb rw dc p t s' rest fs es x1 x2} S hl ha hk hs hn=>Lw S hl ha hk (DB g hs) g
  ⟨P,iT P rfl (gQ _ g)⟩
 | .char c,g=>have P:PR (.char c):=rU (w:=Fy) (λrest hs=>DC hs) rfl (λe=>nomatch e) (λe=>nomatch e) (λe=>nomatch e) (λe=>nomatch e)
  ⟨P,iT P rfl (gQ _ g)⟩
 | .text cs,g=>have P:PR (.text cs):=rU (w:=DI) (λrest hs=>DA (aj g.1 (ab rfl))) rfl (λe=>nomatch e) (λe=>nomatch e) (λe=>nomatch e) (λe=>nomatch e)
  ⟨P,iT P rfl (gQ _ g)⟩
 | .vec a b,g=>have P:PR (.vec a b):=KV (sS a g.1).1 (sS b g.2).1 (gQ a g.1) (gQ b g.2)
  ⟨P,iT P rfl (gQ _ g)⟩
 | .pair a b,g=>⟨G6 (sS a g.1).1 (sS b g.2).2 (gQ a g.1) (AX b),GA (sS a g.1).1 (sS b g.2).2 (gQ a g.1) (AX b)⟩
end
section
mutual
variable{d n m:Nat}{H H' au:Hp}{k r l f tb rw dc p:Nat}{t s s' rest:List Nat}{es es':List (List Nat×AV)}{v:AV}{x:D}
structure RI(H:Hp)(r l tb rw dc:Nat)(t:List Nat)(p:Nat)(es:List (List Nat×AV)):Prop where
 hr:∃f,Hk H r (.n 23 [(46, .ref l),(47, .ref tb),(48, .ref f)])
 hl:Lx H l t p
 ht:Tb H tb rw dc es
def RdS.idle{fs:List AV}(S:RdS H r l f tb rw dc t p fs es):RI H r l tb rw dc t p es:=⟨⟨f,S.hr⟩,S.hl,S.ht⟩
abbrev Jt(n r l rw dc i:Nat):Prop:=i<n/\i≠r/\i≠l/\i≠rw/\i≠dc
def RI.start(S:RI H r l tb rw dc t p es):∃H',Rs (d+22) [some (.ref r),none,none,none,none] H (.aS (.aT (.v 0) 48) (.list [])) (.next,[some (.ref r),none,none,none,none],H')/\RdS H' r l H.length tb rw dc t p [] es/\Keep (·≠r) H H':=by
 obtain⟨f,hr⟩:=S.hr;refine aM (S.ht.hr) λrs hw hwl=>?_;have K:Keep (·≠r) H ((H++ [Cell.list []]).set r (.n 23 [(46, .ref l),(47, .ref tb),(48, .ref H.length)])):=Keep.app.trans (Keep.set λo=>o rfl);have r0:r<H.length:=bx hr;exact eH _ (iU (fK aq (aN (aY _))) (jG (ah rfl) (bD hr) rfl rfl)) (⟨cP (by erw [ag];exact gL r0),K.at_ _ _ (ba S.hl hr λe=>nomatch e) S.hl,cX (aE r0) aV,S.ht.keep K (ba S.ht.ht hr λe=>nomatch e) (ba hw hr λe=>nomatch e) (ba S.ht.hd hr λe=>nomatch e) (λk n s h=>ba h hr λe=>nomatch e),Ne.symm (aE (bx hw))⟩) K
def Te(g:x.good)(S:RI H r l tb rw dc t p es)(hl:t.length<=1000000)(ha:At t p s)(hk:Sk s (tx true x++rest))(hs:ie rest)(hn:sz x<=900000):∃v q H' es',aQ (d+23) H 99 [.ref r] (v,H')/\RI H' r l tb rw dc t q es'/\At t q rest/\gJ (Nw H.length H' es') H' v x/\Sub es es'/\Keep (Jt H.length r l rw dc) H H':=by
 refine dt (S.start (d:=d)) λau e1 S1 K1=>?_;refine wZ ((sS x g).1 (d:=d) (x1:=none) (x2:=none) S1 hl ha hk hs (by show 0+_<=_;exact(cA (aK (aI 0) ai) (aI 900000) [(ai,aI 900000)] aS hn))) λv k w v0 a e q aP pZ S2 a2 r2 sb K2 T2 go=>?_;have h:=go _ (Ox S2 T2);have K:Keep (Jt H.length r l rw dc) H aP:=(K1.weak λi o=>o.2.1).trans (K2.weak λi o=>(we (ao o.1 K1.len) o.2.2.1 o.2.2.2.1 o.2.2.2.2 (aE o.1)));exact QG v q _ pZ (bz (F:=Q3) rfl rfl rfl (aC e1 (eQ h))) ((S2.more Keep.app).idle) a2 (r2.move (ok:=all) Keep.app iD.lt .refl K1.len) sb (K.trans Keep.app)
def O7(S:RI H r l tb rw dc t p es)(hl:t.length<=1000000)(ha:At t p s)(hk:Sk s []):∃q H',aQ (d+23) H 99 [.ref r] (.obj 1,H')/\RI H' r l tb rw dc t q es/\Keep (Jt H.length r l rw dc) H H':=by
 refine dt (S.start (d:=d)) λau e1 S1 K1=>?_;refine w1 (z8 (d:=d) (x1:=none) (x2:=none) S1 hl ha hk GD) λk v a e q bU aP S2 a2 T2 K2 zz zy go=>?_;have K:Keep (Jt H.length r l rw dc) H aP:=(K1.weak λi o=>o.2.1).trans (K2.weak λi o=>o.2.2.1);exact i7 q _ (bz (F:=Q3) rfl rfl rfl (aC e1 (eQ (l9 (gF rfl aA) (go _ (mw (gO (cC rfl T2 rfl rfl) aA (gf rfl)) (mw (GH (cC rfl S2.hr rfl rfl) S2.hf) (fx aA)))))))) ((S2.more Keep.app).idle) (K.trans Keep.app)
def Bp{ok:Nat->Prop}(x:D)(h:gJ ok H v x):Dl v (.obj 1)=some false:=by
 cases x using D.casesOn with
 | bool zz=>cases (h:v=_);rfl
 | int zz=>cases (h:v=_);rfl
 | empty=>cases (h:v=_);rfl
 | ratio zz zy=>refine aM h λzz xq1 zy=>?_;subst xq1;rfl
 | real zz zy=>refine aM h λzz xq2 zy=>?_;subst xq2;rfl
 | sym zz=>refine gz h λzz zy xq3 zx=>?_;subst xq3;rfl
 | char zz=>refine aM h λzz xq4 zy=>?_;subst xq4;rfl
 | text zz=>refine gz h λzz zy xq5 zx=>?_;subst xq5;rfl
 | vec zz zy=>refine Nf h λzz zy zx zw xq6 zv=>?_;subst xq6;rfl
 | pair zz zy=>refine vq h λzz zy zx xq7 zw=>?_;subst xq7;rfl
def Ue:aQ (d+1) (H++ [.n 21 []]) 85 [.ref H.length, .str t, .int 53, .bool true] (.none,H++ [.n 21 [(13, .str t),(42, .int 53),(26, .int 0),(43, .bool true)]]):=fB (F:=Su) rfl rfl rfl (aC (dU rfl (ah rfl) rfl rfl) (aC (dU rfl (ah rfl) rfl rfl) (aC (dU rfl aA rfl rfl) (aC (dU rfl (ah rfl) rfl rfl) bb))))
def xr{ls:Ls}{a:E}{c g:Nat}{gs:List (Nat×AV)}(h0:ls[0]? =some (some (.ref r)))(h:Re d ls H a (v,au))(hr:Hk au r (.n c gs))(hf:wU P c g=true)(hl:cg gs.length 20=true):∃H',Rs d ls H (.aS (.aT (.v 0) g) a) (.next,ls,H')/\Hk H' r (.n c (oI g v gs))/\Keep (·≠r) au H':=
 (eH _ (iU h (jG (ah h0) hr hf hl)) (cP (bx hr)) (Keep.set λo=>o rfl))
def Tf(T:Tb H tb rw dc es):∃l H',aQ (d+2) (H++ [.n 23 []]) 97 [.ref H.length, .str t, .ref tb, .int 53, .bool true] (.none,H')/\RI H' H.length l tb rw dc t 0 es/\H.length<=l/\Keep (· <H.length) H H':=by
 refine dt (xr (d:=d+1) (H:=H++ [.n 23 []]) (r:=H.length) (ls:= [some (.ref H.length),some (.str t),some (.ref tb),some (.int 53),some (.bool true),none,none]) (g:=46) rfl (gH (i:=21) (ak (ah (i:=1) rfl) (ak (ah (i:=3) rfl) (ak (ah (i:=4) rfl) aq))) rfl (Ue (t:=t))) (bD aV) rfl rfl) λH1 i1 g1 K1=>?_;refine dt (xr (d:=d+1) (H:=H1) (r:=H.length) (ls:= [some (.ref H.length),some (.str t),some (.ref tb),some (.int 53),some (.bool true),none,none]) (g:=47) rfl (ah (i:=2) rfl) g1 rfl rfl) λH2 i2 g2 K2=>?_;refine dt (xr (d:=d+1) (H:=H2) (r:=H.length) (ls:= [some (.ref H.length),some (.str t),some (.ref tb),some (.int 53),some (.bool true),none,none]) (g:=48) rfl (fK aq (aN (aY _))) (bD g2) rfl rfl) λH3 i3 g3 K3=>?_;have K:Keep (·≠H.length) (H++ [Cell.n 23 []]++ [Cell.n 21 [(13,AV.str t),(42,AV.int 53),(26,AV.int 0),(43,AV.bool true)]]) H3:=K1.trans (K2.trans (Keep.app.trans K3));have hl:H.length<(H++ [Cell.n 23 []]).length:=by erw [ag];exact cJ _
 have Kb:Keep (· <H.length) H H3:=Keep.app.trans (Keep.app.trans (K.weak λi o=>aE o));refine aM (T.hr) λrs hw zz=>?_;exact d4 _ H3 (fB (F:=Sl) rfl rfl rfl (aC i1 (aC i2 (aC i3 bb)))) (⟨⟨_,g3⟩,K.at_ _ _ (Ne.symm (aE hl)) aV,T.keep Kb (bx T.ht) (bx hw) (bx T.hd) λk n s h=>bx h⟩) (d6 hl) Kb
def c3:∃rw dc H',aQ (d+1) (H++ [.n 2 []]) 3 [.ref H.length] (.none,H')/\Tb H' H.length rw dc []/\H.length<=rw/\H.length<=dc/\Keep (· <H.length) H H':=by
 refine dt (xr (d:=d) (H:=H++ [.n 2 []]) (r:=H.length) (ls:= [some (.ref H.length),none,none]) (g:=14) rfl (fK aq (aN (aY _))) (bD aV) rfl rfl) λH1 i1 g1 K1=>?_;refine dt (xr (d:=d) (H:=H1) (r:=H.length) (ls:= [some (.ref H.length),none,none]) (g:=15) rfl Iv (bD g1) rfl rfl) λH2 i2 g2 K2=>?_;have hl:H.length<(H++ [Cell.n 2 []]).length:=by erw [ag];exact cJ _
 have l1:(H++ [Cell.n 2 []]).length<=H1.length:=aj (Keep.app (ok:=all) (L:= [Cell.list []])).len K1.len;have hr:Hk H2 ((H++ [Cell.n 2 []]).length) (.list []):=K2.at_ _ _ (Ne.symm (aE hl)) (bD (K1.at_ _ _ (Ne.symm (aE hl)) aV));have hd:Hk H2 (H1.length) (.dict []):=K2.at_ _ _ (Ne.symm (aE (ao hl l1))) aV;exact iR _ _ H2 (fB (F:=f3) rfl rfl rfl (aC i1 (aC i2 bb))) (⟨g2,⟨[],hr,by decide⟩,by decide,hd,λs v h=>nomatch h⟩) (d6 hl) (d6 (ao hl l1)) (Keep.app.trans (Keep.app.trans ((K1.weak λi o=>aE o).trans (Keep.app.trans (K2.weak λi o=>aE o)))))
end
end
mutual
class inductive Sq:List Nat->List D->Prop
 | nil {s:List Nat}:Sk s []->Sq s []
 | cons {s rest:List Nat} {x:D} {xs:List D}:Sk s (tx true x++rest)->ie rest->x.good->sz x<=900000->Sq rest xs->Sq s (x::xs)
end
section
mutual
variable{N:Nat}
variable{d n m:Nat}{H H' au:Hp}{k r l f tb rw dc p:Nat}{t s s' rest:List Nat}{es es':List (List Nat×AV)}{v:AV}{x:D}
def T6(S:RI H r l tb rw dc t p es):aQ (d+1) H 98 [.ref r] (.int p,H):=by
 obtain⟨f,hr⟩:=S.hr;exact bz (F:=Sj) rfl rfl rfl (fx (de (cC rfl hr rfl rfl) S.hl rfl rfl))
def RI.low(S:RI H r l tb rw dc t p es):rw<H.length/\dc<H.length:=by
 refine aM (S.ht.hr) λrs h zz=>?_;exact⟨bx h,bx S.ht.hd⟩
def Keep.outer{n:Nat}{ok:Nat->Prop}(K:Keep (Jt n r l rw dc) H H')(h1:N<=n)(h2:N<=r)(h3:N<=l):Keep (λi=>i<N/\i≠rw/\i≠dc) H H':=K.weak λi o=>(Ae (ao o.1 h1) (aE (ao o.1 h2)) (aE (ao o.1 h3)) o.2)
def wg(S:RI H r l tb rw dc t p es)(hr:r<m)(hl:l<m)(hrw:rw<m)(hdc:dc<m):iD m H (Jt H.length r l rw dc):=by
 obtain⟨f,h⟩:=S.hr;refine aM (S.ht.hr) λrs hw zz=>?_;exact λk c e o=>(we (bx e) (iD.ne h hr rfl k c e o) (iD.ne S.hl hl rfl k c e o) (iD.ne hw hrw rfl k c e o) (iD.ne S.ht.hd hdc rfl k c e o))
def RO(g:x.good)(T:Tb H tb rw dc es)(hl:t.length<=1000000)(hk:Sk t (tx true x++rest))(hs:ie rest)(he:Sk rest [])(hn:sz x<=900000):∃v H' es',aQ (d+24) H 108 [.str t, .ref tb] (v,H')/\Tb H' tb rw dc es'/\gJ (Nw H.length H' es') H' v x/\Keep (λi=>i<H.length/\i≠rw/\i≠dc) H H':=by
 refine fy (Tf (d:=d+21) (t:=t) T) λl au e1 S1 hl1 K1=>?_;have n1:H.length<au.length:=by obtain⟨f,h⟩:=S1.hr;exact bx h
 refine Kh (Te (d:=d) g S1 hl ⟨rfl,aY _⟩ hk hs hn) λv q aP pZ e2 S2 a2 r2 sb K2=>?_;refine dY (O7 (d:=d) S2 hl a2 he) λq3 dM e3 S3 K3=>?_;obtain⟨f1,hr1⟩:=S1.hr;obtain⟨f2,hr2⟩:=S2.hr;refine pS v dM pZ (bz (F:=OV) rfl rfl rfl (cL (gH (bW rfl (bW rfl (ak (ah rfl) (ak (ah rfl) aq)))) rfl e1) rfl (cL (i5 rfl hr1 rfl rfl rfl aq e2) rfl (ij (gF rfl (dy (ah rfl) aA (Bp x r2))) (aC (iU (gD (ah rfl) hr2 rfl rfl rfl aq (T6 (d:=d+22) S2)) (eu rfl)) (aC (cV (gF rfl (dy (gD (ah rfl) hr2 rfl rfl rfl aq e3) aA rfl)) bb) (eQ (kL (ah rfl))))))))) S3.ht ?_ ?_
 ·exact r2.move K3 (wg S2 n1 (bx S1.hl) S1.low.1 S1.low.2) .refl (d6 n1)
 ·exact(K1.weak λi o=>o.1).trans ((K2.outer (ok:=all) (d6 n1) (ay _) hl1).trans (K3.outer (ok:=all) (aj (d6 n1) K2.len) (ay _) hl1))
noncomputable abbrev TH:List S:= [(.aS (.v 6) (.meth (.v 4) 49 [])),(.ite (.j .is (.v 6) (.lit (.obj 1))) [(.ret (.v 5))] []),(.expr (.meth (.v 5) 0 [(.v 6)]))]
set_option tactic.hygienic true in
theorem FW{kl:Nat}{l0 l1 l2 l3 l7 l8:Option AV}(hl:t.length<=1000000){ys:List D}(hq:Sq s ys):∀{H:Hp} {p:Nat} {es:List (List Nat×AV)} {vs:List AV} {xs:List D} {x6:Option AV},RI H r l tb rw dc t p es->At t p s->Hk H kl (.list vs)->kl≠rw->vs.length+ys.length<=1000000->r<m->l<m->rw<m->dc<m->kl<m->m<=H.length->N<=r->N<=l->N<=kl->jI (Nw m H es) H vs xs->
  ∃ws H' es' ls',Rs (d+23) [l0,l1,l2,l3,some (.ref r),some (.ref kl),x6,l7,l8] H (.while (.lit (.bool true)) TH) (.ret (.ref kl),ls',H')/\Tb H' tb rw dc es'/\Hk H' kl (.list ws)/\jI (Nw m H' es') H' ws (xs++ys)/\Keep (λi=>i<N/\i≠rw/\i≠dc) H H':=by
 induction hq with
 | nil hk=>
  intro H p es vs xs x6 S ha hkl hne hv h1 h2 h3 h4 h5 hm n1 n2 n3 rs;obtain⟨f,hr⟩:=S.hr;refine dY (O7 (d:=d) S hl ha hk) λq H' e S' K=>?_;have o:Jt H.length r l rw dc kl:=(we (bx hkl) (ba hkl hr (λe=>nomatch e)) (ba hkl S.hl (λe=>nomatch e)) hne (ba hkl S.ht.hd (λe=>nomatch e)))
  erw [br]
  exact tB vs H' es _ (l9 (gF rfl aA) (cL (i5 rfl hr rfl rfl rfl aq e) rfl (mw (cT rfl rfl) (fx (ah rfl))))) S'.ht (K.at_ _ _ o hkl) (rs.move K (wg S h1 h2 h3 h4) .refl (ay _)) (K.outer (ok:=all) (aj n1 (aj (d6 h1) hm)) n1 n2)
 | cons hk hs g hn hq ih=>
  rename_i s rest x ys
  intro H p es vs xs x6 S ha hkl hne hv h1 h2 h3 h4 h5 hm n1 n2 n3 rs;rw[aJ]at hv;obtain⟨f,hr⟩:=S.hr;refine Kh (Te (d:=d) g S hl ha hk hs hn) λv q aP pZ e2 S2 a2 r2 sb K2=>?_;have o:Jt H.length r l rw dc kl:=(we (bx hkl) (ba hkl hr (λe=>nomatch e)) (ba hkl S.hl (λe=>nomatch e)) hne (ba hkl S.ht.hd (λe=>nomatch e)));have hk2:=K2.at_ _ _ o hkl;have K3:Keep (·≠kl) aP (aP.set kl (.list (vs++ [v]))):=Keep.set λo=>o rfl;obtain⟨f2,hr2⟩:=S2.hr;refine aM (S2.ht.hr) λrsl hw2 _=>?_;have S3:RI (aP.set kl (.list (vs++ [v]))) r l tb rw dc t q pZ:=⟨⟨f2,K3.at_ _ _ (ba hr2 hk2 λe=>nomatch e) hr2⟩,K3.at_ _ _ (ba S2.hl hk2 λe=>nomatch e) S2.hl,S2.ht.keep K3 (ba S2.ht.ht hk2 λe=>nomatch e) hne.symm (ba S2.ht.hd hk2 λe=>nomatch e) λk n s h=>ba h hk2 λe=>nomatch e⟩;have hK:iD m aP (·≠kl):=iD.ne hk2 h5 rfl;refine w3 (ih (x6:=some v) S3 a2 (cP (bx hk2)) hne (by erw [ag];show _+1+_<=_;exact(bF (aK bh az) cY [(aK ai cO,cY)] aS hv)) h1 h2 h3 h4 h5 (by erw [iM];exact aj hm K2.len) n1 n2 n3 (((rs.move K2 (wg S h1 h2 h3 h4) sb (ay _)).move K3 hK .refl (ay _)).add (r2.move K3 (iD.ne hk2 (ao h5 hm) rfl) .refl hm))) λws H' es' ls' e T' hk' rs' K'=>?_;rw[aB]at rs';exact tB ws H' es' ls' (eR (gF rfl aA) (cL (i5 rfl hr rfl rfl rfl aq e2) rfl (ij (cT rfl (Bp x r2)) (ux (ft (ah rfl) hk2 (ah rfl) hk2 (aN (by exact(bF ai cY [(aK ai cO,cY)] aS hv)))) bb))) e) T' hk' rs' ((K2.outer (ok:=all) (aj n1 (aj (d6 h1) hm)) n1 n2).trans ((K3.weak λi o=>aE (ao o.1 n3)).trans K'))
def RP{ys:List D}(T:Tb H tb rw dc es)(hl:t.length<=1000000)(hq:Sq t ys)(hy:ys.length<=1000000):∃kl ws H' es',aQ (d+24) H 107 [.str t, .ref tb] (.ref kl,H')/\Tb H' tb rw dc es'/\Hk H' kl (.list ws)/\jI (Nw H.length H' es') H' ws ys/\Keep (λi=>i<H.length/\i≠rw/\i≠dc) H H':=by
 refine fy (Tf (d:=d+21) (t:=t) T) λl au e1 S1 hl1 K1=>?_;obtain⟨f1,hr1⟩:=S1.hr;have n1:H.length<au.length:=bx hr1;have S2:RI (au++ [.list []]) H.length l tb rw dc t 0 es:=by
  have K:Keep all au (au++ [.list []]):=Keep.app
  exact⟨⟨f1,K.at_ _ _ trivial hr1⟩,S1.hl.keep K,S1.ht.keep K trivial trivial trivial λzz zy zx zw=>trivial⟩
 have hm:au.length<(au++ [Cell.list []]).length:=by erw [ag];exact cJ _
 have low:=S2.low;refine w3 (FW (d:=d) (N:=H.length) (l0:=some (.str t)) (l1:=some (.ref tb)) (l2:=some (.int 53)) (l3:=some (.bool true)) (l7:=none) (l8:=none) (x6:=none) (vs:= []) hl hq S2 ⟨rfl,aY _⟩ aV (Ne.symm (aE S1.low.1)) (by show 0+_<=_;exact(cA (aK (aI 0) ai) cY [(ai,cY)] aS hy)) (gK n1 hm) (bx S2.hl) low.1 low.2 hm (ay _) (ay _) hl1 (d6 n1) jI.nil) λws H' es' ls' e T' hk' rs' K'=>?_;exact tB au.length ws H' es' (bz (F:=OW) rfl rfl rfl (cL (gH (bW rfl (bW rfl (ak (ah rfl) (ak (ah rfl) aq)))) rfl e1) rfl (cL (fK aq (aN (aY _))) rfl (eQ e)))) T' hk' (rs'.move (ok:=all) .refl iD.lt .refl (d6 (gK n1 hm))) ((K1.weak λi o=>o.1).trans (Keep.app.trans K'))
end
end
mutual
noncomputable abbrev Cg(w:List Nat)(v:AV):AV:= .U [.str w,v]
abbrev qp:D->AV×(List AV×AV)
 | .bool b=>one (Cg [98,111,111,108,101,97,110] (.int (yL b)))
 | .int i=>one (Cg [119,104,111,108,101] (.int i))
 | .empty=>one (Cg [101,109,112,116,121] (.int 0))
 | .ratio p q=>one (Cg [114,97,116,105,111] (.U [.int p, .int q]))
 | .real m e=>one (Cg [114,101,97,108] (.U [.int m, .int e]))
 | .sym s=>one (Cg [115,121,109,98,111,108] (.str s))
 | .char c=>one (Cg [99,104,97,114] (.int c))
 | .text cs=>one (Cg [115,116,114,105,110,103] (.U (cs.map λc:Nat=> .int c)))
 | .vec a b=>one (Cg [118,101,99,116,111,114] (.U [(qp a).1,(qp b).1]))
 | .pair a b=>(Cg [99,104,97,105,110] (.U [.U ((qp a).1::(qp b).2.1),(qp b).2.2]),(qp a).1::(qp b).2.1,(qp b).2.2)
where one (v:AV):AV×(List AV×AV):=(v,[],v)
abbrev rm(x:D):AV:=(qp x).1
abbrev dp:D->Nat
 | .vec a b=>1+max (dp a) (dp b)
 | .pair a b=>1+max (dp a) (dp b)
 | _=>0
abbrev Pd(v:AV)(n:Nat):Prop:= ∃p,mX v=some p/\p.canLay0=true/\p.depth<=n
abbrev yT(vs:List AV)(n:Nat):Prop:= ∃ps,toPDs vs=some ps/\PyData.canLayAll0 ps=true/\PyData.depthAll ps<=n
end
section
mutual
variable{v:AV}{vs:List AV}{n m:Nat}{H:Hp}{s:List Nat}
def Pd.le(h:Pd v n)(e:n<=m):Pd v m:=by refine dt h λp a b c=>?_;exact eH p a b (aj c e)
def yT.le(h:yT vs n)(e:n<=m):yT vs m:=by refine dt h λp a b c=>?_;exact eH p a b (aj c e)
def yT.nil:yT [] n:=(eH ([]) rfl rfl (aY _))
def yT.cons(h:Pd v n)(g:yT vs n):yT (v::vs) n:=by
 refine dt h λp a b c=>?_;refine dt g λps a' b' c'=>?_;refine eH (p::ps) ?_ ?_ (wM.mpr ⟨c,c'⟩)
 ·show(match mX v,toPDs vs with | some x,some y=>some (x::y) | _,_=>none)=_
  erw [a,a'];rfl
 ·show(p.canLay0 && PyData.canLayAll0 ps)=true
  erw [b,b'];rfl
def Pd.U(h:yT vs n):Pd (.U vs) (n+1):=by
 refine dt h λps a b c=>?_;exact eH (.tuple ps) (by show(toPDs vs).map _=_;erw [a];rfl) b (dB c)
def Pd.int{i:Int}:Pd (.int i) n:=(eH _ rfl rfl (aY _))
def Pd.str(h:PyData.strOk ⟨s.toArray⟩=true):Pd (.str s) n:=(eH _ rfl h (aY _))
def yT.ints:∀{cs:List Nat},yT (cs.map λc:Nat=>AV.int c) n
 | []=> .nil
 | _::_=> .cons .int yT.ints
def Pd.sh{w:List Nat}(hw:PyData.strOk ⟨w.toArray⟩=true)(h:Pd v n):Pd (Cg w v) (n+1):= .U (.cons (.str hw) (.cons h .nil))
def yx{p:PyData}(h:p.canLay0=true)(hd:p.depth<=64):CV (some p) (some p)=some true:=by
 have s:SeqAt.shaped p=true:=ae.mpr ⟨h,decide_eq_true hd⟩;show(match SeqAt.shaped p && SeqAt.shaped p with | true=>some (PyData.eqv p p) | false=>none)=_
 erw [s,SeqAt.eqv_refl p h];rfl
def Fj{i j:Nat}(hi:Hk H i (.list vs))(hj:Hk H j (.list vs))(h:yT vs n)(hn:n+1<=64):iI H .eq (.ref i) (.ref j)=some true:=by
 refine dt h λps a b c=>?_;show(aF H i).bind (λx=>(aF H j).bind λy=>cond (aX x.length y.length) (CV ((toPDs x).map .list) ((toPDs y).map .list)) (some false))=_
 erw [fj hi,fj hj]
 show cond (aX vs.length vs.length) (CV ((toPDs vs).map .list) ((toPDs vs).map .list)) (some false)=_
 erw [fW,a,(show qZ PyData.list (some ps)=some (.list ps)from rfl),yx (p:= .list ps) b (aj (dB c) hn)]
 rfl
end
end
mutual
def Qf:(names.all λs=>PyData.strOk ⟨s.toArray⟩)=true:=by decide+kernel
def DY:∀(x:D),x.good->Pd (rm x) (3*dp x+3)/\yT (qp x).2.1 (3*dp x)/\Pd (qp x).2.2 (3*dp x+3)/\(x.end_=false->x≠ .empty->Pd (qp x).2.2 (3*dp x)):=by
 have at_:∀(x:D) (w:List Nat) (v:AV),qp x=qp.one (Cg w v)->PyData.strOk ⟨w.toArray⟩=true->Pd v 2->x.end_=true\/x= .empty->Pd (rm x) (3*dp x+3)/\yT (qp x).2.1 (3*dp x)/\Pd (qp x).2.2 (3*dp x+3)/\(x.end_=false->x≠ .empty->Pd (qp x).2.2 (3*dp x)):=by
  intro x w v e hw h he
  have p:Pd (Cg w v) (3*dp x+3):=(Pd.sh hw h).le (eF 3 (3*dp x))
  unfold rm
  erw [e]
  exact Ae p .nil p (λh1 h2=>absurd he (by intro he;cases he using cW with | inl he=>rw[he]at h1;exact nomatch h1 | inr he=>exact h2 he))
 intro x
 induction x with
 | bool b=>exact λg=>at_ _ _ _ rfl (by decide+kernel) .int (.inl rfl)
 | int i=>exact λg=>at_ _ _ _ rfl (by decide+kernel) .int (.inl rfl)
 | empty=>exact λg=>at_ _ _ _ rfl (by decide+kernel) .int (.inr rfl)
 | ratio p q=>exact λg=>at_ _ _ _ rfl (by decide+kernel) (.U (.cons .int (.cons .int .nil))) (.inl rfl)
 | real m e=>exact λg=>at_ _ _ _ rfl (by decide+kernel) (.U (.cons .int (.cons .int .nil))) (.inl rfl)
 | sym s=>exact λg=>at_ _ _ _ rfl (by decide+kernel) (.str (aT.mp Qf s g)) (.inl rfl)
 | char c=>exact λg=>at_ _ _ _ rfl (by decide+kernel) .int (.inl rfl)
 | text cs=>exact λg=>at_ _ _ _ rfl (by decide+kernel) (.U .ints) (.inl rfl)
 | vec a b ia ib=>
  intro g;have ha:=(ia g.1).1;have hb:=(ib g.2).1;have la:3*dp a+3<=3*dp (D.vec a b):=by show _<=3*(1+max (dp a) (dp b));have:=iL (dp a) (dp b);exact(bF (aK (f6 3 ai) (aI 3)) (f6 3 (aK (aI 1) az)) [(ai,az),(ai,az),(ai,az)] aS this this this)
  have lb:3*dp b+3<=3*dp (D.vec a b):=by show _<=3*(1+max (dp a) (dp b));have:=lV (dp a) (dp b);exact(bF (aK (f6 3 ai) (aI 3)) (f6 3 (aK (aI 1) az)) [(ai,az),(ai,az),(ai,az)] aS this this this)
  have p:Pd (rm (D.vec a b)) (3*dp (D.vec a b)+3):=(Pd.sh (by decide+kernel) (.U (.cons (ha.le la) (.cons (hb.le lb) .nil)))).le (ox _);exact Ae p .nil p (λh=>nomatch h)
 | pair a b ia ib=>
  intro g;have ha:=(ia g.1).1;have hb:=ib g.2;have la:3*dp a+3<=3*dp (D.pair a b):=by show _<=3*(1+max (dp a) (dp b));have:=iL (dp a) (dp b);exact(bF (aK (f6 3 ai) (aI 3)) (f6 3 (aK (aI 1) az)) [(ai,az),(ai,az),(ai,az)] aS this this this)
  have lb:3*dp b+3<=3*dp (D.pair a b):=by show _<=3*(1+max (dp a) (dp b));have:=lV (dp a) (dp b);exact(bF (aK (f6 3 ai) (aI 3)) (f6 3 (aK (aI 1) az)) [(ai,az),(ai,az),(ai,az)] aS this this this)
  have cs:yT (qp (D.pair a b)).2.1 (3*dp (D.pair a b)):= .cons (ha.le la) (hb.2.1.le (aj (bw _ 3) lb));have l:Pd (qp (D.pair a b)).2.2 (3*dp (D.pair a b)):=hb.2.2.1.le lb;exact Ae (Pd.sh (by decide+kernel) (.U (.cons (.U cs) (.cons (l.le (ox _)) .nil)))) cs (l.le (bw _ 3)) (λzz zy=>l)
noncomputable abbrev R7:S:= .while (.h (.v 0) (.cls 3)) [(.expr (.meth (.v 2) 0 [(.call 125 [(.aT (.v 0) 16),(.v 1)])])),(.aS (.v 0) (.aT (.v 0) 17))]
abbrev Sh(bU:Hp)(tb n:Nat)(es:List (List Nat×AV))(x:D):Prop:= ∀{e:Nat} {v:AV} {H:Hp},sz x+2<=e->gJ (Nw n bU es) bU v x->Keep all bU H->∃H',aQ e H 125 [v, .ref tb] (rm x,H')/\Keep all H H'
abbrev Ch(bU:Hp)(tb n:Nat)(es:List (List Nat×AV))(x:D):Prop:= ∀{e:Nat} {v:AV} {H:Hp} {kl:Nat} {us:List AV},sz x+2<=e->gJ (Nw n bU es) bU v x->Keep all bU H->bU.length<=kl->Hk H kl (.list us)->us.length+sz x<=1000000->
 ∃v' H' H'',Rs e [some v,some (.ref tb),some (.ref kl),none,none] H R7 (.next,[some v',some (.ref tb),some (.ref kl),none,none],H')/\Hk H' kl (.list (us++(qp x).2.1))/\Keep (·≠kl) H H'/\aQ e H' 125 [v', .ref tb] ((qp x).2.2,H'')/\Keep all H' H''
end
section
mutual
variable{ls:Ls}
variable{bU H:Hp}{tb rw dc n e k c:Nat}{es:List (List Nat×AV)}{x:D}{v:AV}{fs:List (Nat×AV)}{o:Fl×Ls×Hp}{l2:Option AV}
def R.t_isi{d:Nat}{H:Hp}{v:AV}{i:IK}{q:Bool}(h0:ls[0]? =some (some v))(h:kx P H i v=some q):Rt d ls H (.h (.v 0) i) (q,H):=gF rfl (iZ (ah h0) h)
def zA(h:Hk H k (.n c fs))(g:gI e [some (.ref k),some (.ref tb),none,none,none] H (qW.body.drop 3) o):gI e [some (.ref k),some (.ref tb),none,none,none] H qW.body o:=
 ij (R.t_isi rfl (bZ h)) (ij (R.t_isi rfl (bZ h)) (ij (gF rfl (dy (ah rfl) aA rfl)) g))
def lT{i:IK}{b:List S}{ss:List S}(h0:ls[0]? =some (some (.ref k)))(h:Hk H k (.n c fs))(hi:Cy i c=false)(g:gI e ls H ss o):gI e ls H (.ite (.h (.v 0) i) b []::ss) o:=ij (R.t_isi h0 ((bZ h).trans (congrArg some hi))) g
def Cf{i:IK}{a:E}{ss:List S}{H':Hp}(h0:ls[0]? =some (some (.ref k)))(h:Hk H k (.n c fs))(hi:Cy i c=true)(g:Re e ls H a (v,H')):gI e ls H (.ite (.h (.v 0) i) [.ret a] []::ss) (.ret v,ls,H'):=mw (R.t_isi h0 ((bZ h).trans (congrArg some hi))) (fx g)
def Fz(S:Sh bU tb n es x)(hq:(qp x).2=([],rm x))(hp:∀{v H},gJ (Nw n bU es) bU v x->Keep all bU H->kx P H (.cls 3) v=some false):Ch bU tb n es x:=by
 intro e v H kl us he r K hkl hk hu;refine aM (S he r K) λH' e1 K1=>?_
 erw [hq]
 exact iR v H H' (eS (R.t_isi rfl (hp r K))) (by erw [br];exact hk) .refl e1 K1
def lL(S:Sh bU tb n es x)(ha:x.atom=true)(hq:(qp x).2=([],rm x)):Ch bU tb n es x:=Fz S hq λr K=>(iG x ha (r.keep (K.weak λzz zy=>trivial))).1
def gj{l i:Nat}{vs:List AV}(h:aF H l=some vs):(It.cell l i).next H=some ((vs[i]?).map λv=>(v, .cell l (i+1))):=by
 show(aF H l).map _=_
 erw [h];rfl
def A5:∀(x:D),(qp x).2.1.length<=sz x
 | .pair a b=>by
  show(qp b).2.1.length+1<=3+sz a+sz b;have:=A5 b;exact(gn bh (aK (aK (aI 3) az) bH) [(ai,bH)] aS this)
 | .vec a b=>aY _
 | .bool _=>aY _
 | .int _=>aY _
 | .empty=>aY _
 | .ratio _ _=>aY _
 | .real _ _=>aY _
 | .sym _=>aY _
 | .char _=>aY _
 | .text _=>aY _
variable(T:Tb bU tb rw dc es)
def uo{m:Nat}(he:m+2<=e):∃e',e=e'+2:=⟨e-2,by exact(bJ (bF ai (aK az (aI 2)) [(ai,aK az (aI 2))] aS (th _ _)) (bF (aK ai (aI 2)) az [(aK ai (aI 2),az)] aS (pK (dW (bF (aI 2) ai [(aK az (aI 2),ai)] aS he)))))⟩
include T in
theorem vL:∀(x:D),x.good->sz x<=900000->Sh bU tb n es x/\Ch bU tb n es x:=by
 intro x
 induction x with
 | bool b=>
  intro g hz;have S:Sh bU tb n es (.bool b):=by
   intro e v H he r K
   obtain⟨e,xq1⟩:=uo he;subst xq1
   cases (r:v=_)
   exact bI H (bz (F:=qW) rfl rfl rfl (mw (R.t_isi rfl rfl) (fx (gR (gS (ak (eI (ak (ah rfl) aq) rfl) aq)) (aN (ab rfl)))))) .refl
  exact⟨S,lL S rfl rfl⟩
 | int i=>
  intro g hz;have S:Sh bU tb n es (.int i):=by
   intro e v H he r K
   obtain⟨e,xq2⟩:=uo he;subst xq2
   cases (r:v=_)
   exact bI H (bz (F:=qW) rfl rfl rfl (ij (R.t_isi rfl rfl) (mw (R.t_isi rfl rfl) (fx (gR (ak aA (ak (ah rfl) aq)) (aN (ab rfl))))))) .refl
  exact⟨S,lL S rfl rfl⟩
 | empty=>
  intro g hz;have S:Sh bU tb n es .empty:=by
   intro e v H he r K
   obtain⟨e,xq3⟩:=uo he;subst xq3
   cases (r:v=_)
   exact bI H (bz (F:=qW) rfl rfl rfl (ij (R.t_isi rfl rfl) (ij (R.t_isi rfl rfl) (mw (gF rfl (dy (ah rfl) aA rfl)) (eQ (kL (gR (ak aA (ak aA aq)) (aN (ab rfl))))))))) .refl
  exact⟨S,lL S rfl rfl⟩
 | ratio p q=>
  intro g hz;have S:Sh bU tb n es (.ratio p q):=by
   intro e v H he r K
   obtain⟨e,xq4⟩:=uo he;subst xq4
   refine dt r λk xq5 zz h=>?_;subst xq5
   have h:=K.at_ _ _ trivial h
   exact bI H (bz (F:=qW) rfl rfl rfl (zA h (Cf rfl h rfl (gR (gS (ak (gR (ak (cC rfl h rfl rfl) (ak (cC rfl h rfl rfl) aq)) (aN (ab rfl))) aq)) (aN (ab rfl)))))) .refl
  exact⟨S,lL S rfl rfl⟩
 | real p q=>
  intro g hz;have S:Sh bU tb n es (.real p q):=by
   intro e v H he r K
   obtain⟨e,xq6⟩:=uo he;subst xq6
   refine dt r λk xq7 zz h=>?_;subst xq7
   have h:=K.at_ _ _ trivial h
   exact bI H (bz (F:=qW) rfl rfl rfl (zA h (lT rfl h rfl (Cf rfl h rfl (gR (gS (ak (gR (ak (cC rfl h rfl rfl) (ak (cC rfl h rfl rfl) aq)) (aN (ab rfl))) aq)) (aN (ab rfl))))))) .refl
  exact⟨S,lL S rfl rfl⟩
 | sym s=>
  intro g hz;have S:Sh bU tb n es (.sym s):=by
   intro e v H he r K
   obtain⟨e,xq8⟩:=uo he;subst xq8
   refine dY r λk i xq9 ok h=>?_;subst xq9
   have g:=ok.2 _ _ h
   have h:=K.at_ _ _ trivial h
   have T':=T.keep K trivial trivial trivial λzz zy zx zw=>trivial
   have f:aQ (e+1) H 7 [.ref tb, .str s] (.ref k,H):=(c7 (d:=e) T').trans (by erw [g];rfl)
   exact bI H (bz (F:=qW) rfl rfl rfl (zA h (lT rfl h rfl (lT rfl h rfl (Cf rfl h rfl (gR (ak (eX (gO (i5 rfl T'.ht rfl rfl rfl (ak (cC rfl h rfl rfl) aq) f) (ah rfl) (show some (aX k k)=some true from by erw [fW];rfl)) aA) (ak (cC rfl h rfl rfl) aq)) (aN (ab rfl)))))))) .refl
  exact⟨S,lL S rfl rfl⟩
 | char c=>
  intro g hz;have S:Sh bU tb n es (.char c):=by
   intro e v H he r K
   obtain⟨e,xq10⟩:=uo he;subst xq10
   refine dt r λk xq11 zz h=>?_;subst xq11
   have h:=K.at_ _ _ trivial h
   exact bI H (bz (F:=qW) rfl rfl rfl (zA h (lT rfl h rfl (lT rfl h rfl (lT rfl h rfl (Cf rfl h rfl (gR (gS (ak (cC rfl h rfl rfl) aq)) (aN (ab rfl))))))))) .refl
  exact⟨S,lL S rfl rfl⟩
 | text cs=>
  intro g hz;have S:Sh bU tb n es (.text cs):=by
   intro e v H he r K
   obtain⟨e,xq12⟩:=uo he;subst xq12
   refine uc r λk l xq13 zz h zy hl=>?_;subst xq13
   have h:=K.at_ _ _ trivial h
   have hl:=K.at_ _ _ trivial hl
   refine bI H (bz (F:=qW) rfl rfl rfl (zA h (lT rfl h rfl (lT rfl h rfl (lT rfl h rfl (lT rfl h rfl (Cf rfl h rfl (gR (gS (ak (eI (ak (cC rfl h rfl rfl) aq) ?_) aq)) (aN (ab rfl)))))))))) .refl
   show(aF H l).bind _=_
   erw [fj hl]
   show eV (cG (cs.map λc:Nat=>AV.int c).length) _=_
   erw [(aN (by erw [aL];exact aj g.1 (ab rfl)))]
   rfl
  exact⟨S,lL S rfl rfl⟩
 | vec a b ia ib=>
  intro g hz;have ia:=ia g.1 (aj (by show sz a<=_+sz a+sz b;exact(bF ai (aK (aK (aI 4) ai) az) [] aS)) hz);have ib:=ib g.2 (aj (by show sz b<=_+sz a+sz b;exact(bF ai (aK (aK (aI 4) az) ai) [] aS)) hz);have S:Sh bU tb n es (.vec a b):=by
   intro e v H he r K
   obtain⟨e,xq14⟩:=uo he;subst xq14
   refine Gm r λk l x y xq15 zz h zy hl ra rb=>?_;subst xq15
   have h:=K.at_ _ _ trivial h
   have hl:=K.at_ _ _ trivial hl
   have hz:sz (D.vec a b)=4+sz a+sz b:=rfl
   have K0:Keep all H (H++ [.list []]):=Keep.app
   refine aM (ia.1 (e:=e+1) (by exact(gV (aK ai (aI 2)) cO [((aK (aK (aI 4) ai) bH),cQ),(aK cQ (aI 2),aK az (aI 2))] aS (lz hz) he)) ra (K.trans K0)) λau e1 K1=>?_
   have g1:=K1.at_ _ _ trivial (aV (H:=H) (c:= .list []))
   have K2:Keep (· <H.length) H (au.set H.length (.list [rm a])):=((K0.trans K1).weak λzz zy=>trivial).trans (Keep.set λo=>jU _ o)
   have K2':Keep all bU (au.set H.length (.list [rm a])):=⟨aj K.len K2.len,λk c zz e=>K2.at_ k c (bx (K.at_ k c trivial e)) (K.at_ k c trivial e)⟩
   refine aM (ib.1 (e:=e+1) (by exact(gV (aK ai (aI 2)) cO [((aK (aK (aI 4) bH) ai),cQ),(aK cQ (aI 2),aK az (aI 2))] aS (lz hz) he)) rb K2') λaP e2 K3=>?_
   have g2:=K3.at_ _ _ trivial (cP (c:= .list [rm a]) (bx g1))
   have K4:Keep (· <H.length) H (aP.set H.length (.list [rm a,rm b])):=K2.trans ((K3.weak λzz zy=>trivial).trans (Keep.set λo=>jU _ o))
   have l1:=fj (bD (c':= .list []) hl)
   have l2:=fj (K2.at_ _ _ (bx hl) hl)
   have l3:=fj (K4.at_ _ _ (bx hl) hl)
   have cm:lP (e+1) [some (.ref k),some (.ref tb),none,none,none] (H++ [.list []]) (.cell l 0) (.one 3) none (.call 125 [.v 3, .v 1]) H.length (aP.set H.length (.list [rm a,rm b])):=
    i4 (v:=x) (it':= .cell l 1) (gj l1) rfl (bj (bW rfl (bW rfl aq)) e1) g1 (aN (aY _)) (i4 (v:=y) (it':= .cell l 2) (gj l2) rfl (bj (bW rfl (bW rfl aq)) e2) g2 (aN (ab rfl)) (gq (gj l3)))
   refine bI _ (bz (F:=qW) rfl rfl rfl (zA h (lT rfl h rfl (lT rfl h rfl (lT rfl h rfl (lT rfl h rfl (lT rfl h rfl (Cf rfl h rfl (gR (gS (ak (eI (ak (k7 rfl (cC rfl h rfl rfl) (by show(aF _ l).map _=_;erw [fj hl];rfl) cm) aq) ?_) aq)) (aN (ab rfl))))))))))) (K4.below λi h zz=>h)
   show(aF _ H.length).bind _=_
   erw [fj (cP (bx g2))]
   show eV (cG 2) _=_
   erw [aN (ab rfl)]
   rfl
  exact⟨S,Fz S rfl λr K=>by refine w5 r λk l x y xq17 zz h zy=>?_;subst xq17;exact bZ (K.at_ _ _ trivial h)⟩
 | pair a b ia ib=>
  intro g hz;have ia:=ia g.1 (aj (by show sz a<=_+sz a+sz b;exact(bF ai (aK (aK (aI 3) ai) az) [] aS)) hz);have ib:=ib g.2 (aj (by show sz b<=_+sz a+sz b;exact(bF ai (aK (aK (aI 3) az) ai) [] aS)) hz);have hz:sz (D.pair a b)=3+sz a+sz b:=rfl;have C:∀{e:Nat} {v:AV} {H:Hp} {kl:Nat} {us:List AV},sz a+sz b+2<=e->gJ (Nw n bU es) bU v (.pair a b)->Keep all bU H->bU.length<=kl->Hk H kl (.list us)->us.length+sz (D.pair a b)<=1000000->
    ∃v' H' H'',Rs e [some v,some (.ref tb),some (.ref kl),none,none] H R7 (.next,[some v',some (.ref tb),some (.ref kl),none,none],H')/\Hk H' kl (.list (us++(qp (D.pair a b)).2.1))/\Keep (·≠kl) H H'/\aQ e H' 125 [v', .ref tb] ((qp (D.pair a b)).2.2,H'')/\Keep all H' H'':=by
   intro e v H kl us he r K hkl hk hu
   refine jX r λk x y xq18 zz h ra rb=>?_;subst xq18
   have h:=K.at_ _ _ trivial h
   refine aM (ia.1 (e:=e) (by exact(gn (aK ai (aI 2)) az [(aK (aK ai bH) (aI 2),az)] aS he)) ra K) λau e1 K1=>?_
   have g1:=K1.at_ _ _ trivial hk
   have nk:k≠kl:=ba h hk λe=>nomatch e
   have K2:Keep (·≠kl) H (au.set kl (.list (us++ [rm a]))):=(K1.weak λzz zy=>trivial).trans (Keep.set λo=>o rfl)
   have K2':Keep all bU (au.set kl (.list (us++ [rm a]))):=⟨aj K.len K2.len,λk c zz e=>K2.at_ k c (aE (ao (bx e) hkl)) (K.at_ k c trivial e)⟩
   refine jX (ib.2 (e:=e) (by exact(gn (aK ai (aI 2)) az [(aK (aK bH ai) (aI 2),az)] aS he)) rb K2' hkl (cP (bx g1)) (by erw [ag];show _+1+_<=_;exact(gV (aK bh az) cY [((aK (aK (aI 3) bH) az),cQ),(aK ai cQ,cY)] aS (lz hz) hu))) λv' H' H'' e2 h2 K3 e3 K4=>?_
   refine iR v' H' H'' (eR (R.t_isi rfl (bZ h)) (ux (ft (ah rfl) hk (bj (ak (cC rfl h rfl rfl) (bW rfl aq)) e1) g1 (aN (by exact(bF ai cY [(aK ai az,cY)] aS hu)))) (cL (cC rfl (K2.at_ _ _ nk h) rfl rfl) rfl bb)) e2) ?_ (K2.trans K3) e3 K4
   show(_:Option Cell)=_;erw [h2,aB]
   rfl
  refine⟨?_,λhe=>C (by exact(gV (aK (aK ai az) (aI 2)) bH [((aK (aK (aI 3) ai) az),cQ),(aK cQ (aI 2),bH)] aS (lz hz) he))⟩;intro e v H he r K;obtain⟨e,xq19⟩:=uo he;subst xq19;have r':=r;refine jX r' λk x y xq20 zz h ra rb=>?_;subst xq20;have h:=K.at_ _ _ trivial h;refine jX (C (e:=e+1) (us:= []) (by exact(gV (aK (aK ai az) (aI 2)) mc [((aK (aK (aI 3) ai) az),cQ),(aK cQ (aI 2),aK bH (aI 2))] aS (lz hz) he)) r (K.trans Keep.app) K.len aV (by show 0+_<=_;lia)) λv' H' H'' e2 h2 K3 e3 K4=>?_;have g2:=K4.at_ _ _ trivial h2;refine bI H'' (bz (F:=qW) rfl rfl rfl (zA h (lT rfl h rfl (lT rfl h rfl (lT rfl h rfl (lT rfl h rfl (lT rfl h rfl (lT rfl h rfl (ij (uA (R.t_isi rfl (bZ h))) (cL (fK aq (aN (aY _))) rfl (aC e2 (fx (gR (ak aA (ak (gR (ak (eI (ak (ah rfl) aq) ?_) (ak (bj (ak (ah rfl) (ak (ah rfl) aq)) e3) aq)) (aN (ab rfl))) aq)) (aN (ab rfl))))))))))))))) (((Keep.app.trans (K3.weak λi o=>aE o)).trans (K4.weak λzz zy=>trivial)).below (ok:=(· <H.length)) λi h zz=>h);show(aF H' H.length).bind _=_
  erw [fj h2]
  show eV (cG ((qp (D.pair a b)).2.1).length) _=_
  erw [(aN (aj (A5 _) (by lia)))]
  rfl
end
end
mutual
structure Deck(H:Hp)(dk sc τ:Nat):Prop where
 ex:∃(cells:List Int) (turn:Nat) (st:Int),Hk H dk (.list [.ref sc, .int turn, .int st])/\Hk H sc (.list (cells.map .int))/\turn<=τ/\0<=st/\st<4294967296/\cells.length<=1000
end
section
mutual
variable{a:Int}
variable{d:Nat}{H H':Hp}{dk sc τ k j n:Nat}{v:AV}{vs:List AV}
def sO(hk:Hk H k (.list vs))(hj:j<vs.length)(hl:vs.length<=1000000):mY H (.ref k) (.int j) v=some (H.set k (.list (vs.set j v))):=bo hk (by
 show eV (cg j vs.length && cG vs.length) _=_
 erw [cM.mpr hj,aN hl];rfl)
def zV(hn:0<n):nY .mod (.int a) (.int n) H=some (.int (gu a n),H):=by
 show((eV (!decide ((n:Int)=0)) (some (gu a n))).map λk=>(AV.int k,H))=_
 erw [(decide_eq_false (by exact(λzz=>(Dk [] [_] (.hn (eT (aI 0)) ai (.hz (.ic ai) (.ik 0) .ho)) aS hn (wW zz)))))];rfl
def BD(hn:0<n)(hf:n<10 ^ 40):nY .fdiv (.int a) (.int n) H=some (.int (lq a n),H):=by
 show((eV (!decide ((n:Int)=0) && fR n) (some (lq a n))).map λk=>(AV.int k,H))=_
 erw [(decide_eq_false (by exact(λzz=>(Dk [] [_] (.hn (eT (aI 0)) ai (.hz (.ic ai) (.ik 0) .ho)) aS hn (wW zz))))),fV hf];rfl
def pW{i:Int}(h0:0<=i)(h:i<4294967296):fR i=true:=by
 obtain⟨n,rfl⟩:∃n:Nat,i=n:=⟨i.toNat,by exact(jW (eC [_] [_] 0 (.iv 0) (.ic ai) (.hz (.iv 0) (.ic ai) .ho) aS (wV (bV (eC [_] [] 0 (.ik 0) (.iv 0) (.hz (.ik 0) (.iv 0) .ho) aS h0)))) (eC [_] [_] 0 (.ic ai) (.iv 0) (.hz (.ic ai) (.iv 0) .ho) aS (wW (bV (eC [_] [] 0 (.ik 0) (.iv 0) (.hz (.ik 0) (.iv 0) .ho) aS h0)))))⟩;exact fV (ao (show n<4294967296 from by exact(bP.mp (eC [] [_] 0 (.ic bh) (.ic (aI 4294967296)) (.hz (.ip (.ic ai) (.ik 1)) (.ik 4294967296) .ho) aS h))) (ab rfl))
def Deck.ne(h:Deck H dk sc τ):dk≠sc:=by
 refine B3 (h.ex) λcells turn st h1 h2 zz=>?_;exact ba h1 h2 λe=>by cases cells using aw with
  | nil=>exact nomatch e
  | cons a b=>exact nomatch (dC (Cell.list.inj e)).1
def Deck.keep{ok:Nat->Prop}(h:Deck H dk sc τ)(K:Keep ok H H')(o1:ok dk)(o2:ok sc):Deck H' dk sc τ:=by
 refine B3 (h.ex) λcells turn st h1 h2 h3=>?_;exact⟨cells,turn,st,K.at_ _ _ o1 h1,K.at_ _ _ o2 h2,h3⟩
def Deck.le{σ:Nat}(h:Deck H dk sc τ)(e:τ<=σ):Deck H dk sc σ:=by
 refine gT (h.ex) λcells turn st h1 h2 h3 h4=>?_;exact⟨cells,turn,st,h1,h2,aj h3 e,h4⟩
def fO:(3:Nat)<=1000000:=ab rfl
def Ma(D:Deck H dk sc τ)(hn:0<n)(hτ:τ<=100000):∃i H',i<n/\aQ (d+1) H 122 [.ref dk, .int n] (.int (i:Nat),H')/\Deck H' dk sc (τ+1)/\Keep (·≠dk) H H':=by
 have ne:=D.ne;refine Gn (D.ex) λcells turn st h1 h2 h3 h4 h5 h6=>?_;have g1:(H.set dk (.list [.ref sc, .int (turn+1:Nat), .int st]))[dk]? =_:=cP (bx h1);have g2:(H.set dk (Cell.list [AV.ref sc,AV.int (turn+1:Nat),AV.int st]))[sc]? =_:=cX ne h2;have lc:(cells.map AV.int).length<=1000000:=by erw [aL];exact aj h6 (ab rfl)
 have ex:∃c:Int,Re d [some (.ref dk),some (.int n),some (.int turn),none,none,none] (H.set dk (.list [.ref sc, .int (turn+1:Nat), .int st])) (.ife (.j .lt (.v 2) (.bi .len [(.idx (.v 0) (.lit (.int 0)))])) (.idx (.idx (.v 0) (.lit (.int 0))) (.v 2)) (.o .fdiv (.idx (.v 0) (.lit (.int 2))) (.lit (.int 512)))) (.int c,H.set dk (.list [.ref sc, .int (turn+1:Nat), .int st])):=by
  have i0:=fi (i:=0) g1 fO rfl
  have i2:=fi (i:=2) g1 fO rfl
  have ln:=ku g2 lc
  rw[aL]at ln
  rcases yV turn cells.length with l | l
  ·exact⟨cells[turn],eX (gO (ah rfl) (eI (ak (dD (ah rfl) aA i0) aq) ln) (dT (fX.mpr l))) (dD (dD (ah rfl) aA i0) (ah rfl) (fi g2 lc (by erw [ey,bq l];rfl)))⟩
  ·exact⟨lq st 512,fz (gO (ah rfl) (eI (ak (dD (ah rfl) aA i0) aq) ln) (dF (jg.mpr (bP.mpr l)))) (bT (dD (ah rfl) aA i2) aA (BD (n:=512) (by decide) (ao (show 512<10 ^ 3 from ab rfl) (cq (cI _) (ab rfl)))))⟩
 obtain⟨c,ec⟩:=ex;have fs:0<=gu (st*69069+gu c 1000003+11*(turn:Int)+1) 4294967296/\gu (st*69069+gu c 1000003+11*(turn:Int)+1) 4294967296<4294967296:=⟨Int.fmod_nonneg_of_pos _ (by decide),Int.fmod_lt_of_pos _ (by decide)⟩;have fn:0<=gu c n/\gu c n<n:=⟨Int.fmod_nonneg_of_pos _ (by exact(eC [] [_] 0 (.ip (.ik 0) (.ik 1)) (.ic ai) (.hn (eT (aI 0)) ai .ho) aS hn)),Int.fmod_lt_of_pos _ (by exact(eC [] [_] 0 (.ip (.ik 0) (.ik 1)) (.ic ai) (.hn (eT (aI 0)) ai .ho) aS hn))⟩;have es:Re d [some (.ref dk),some (.int n),some (.int turn),some (.int c),none,none] (H.set dk (.list [.ref sc, .int (turn+1:Nat), .int st])) (.o .mod (.o .add (.o .add (.o .add (.o .mul (.idx (.v 0) (.lit (.int 2))) (.lit (.int 69069))) (.o .mod (.v 3) (.lit (.int 1000003)))) (.o .mul (.lit (.int 11)) (.v 2))) (.lit (.int 1))) (.lit (.int 4294967296))) (.int (gu (st*69069+gu c 1000003+11*(turn:Int)+1) 4294967296),H.set dk (.list [.ref sc, .int (turn+1:Nat), .int st])):=
  bT (bT (bT (bT (bT (dD (ah rfl) aA (fi (i:=2) g1 fO rfl)) aA (Hv (pW h4 h5) (pW (by decide) (by decide)))) (bT (ah rfl) aA (zV (n:=1000003) (by decide))) rfl) (bT aA (ah rfl) (Hv (pW (by decide) (by decide)) (pW (by exact(eC [] [_] 0 (.ik 0) (.ic ai) .ho aS)) (by exact(eC [] [_,_] 0 (.ip (.ic ai) (.ik 1)) (.ik 4294967296) (.hn ai az (.hn az (aI 100000) .ho)) aS h3 hτ))))) rfl) aA rfl) aA (zV (n:=4294967296) (by decide));refine d4 ((gu c n).toNat) _ (by exact(bP.mp (eC [_] [_,_] 0 (.ic bh) (.ic az) (.hz (.ic ai) (.iv 0) (.hz (.ip (.iv 0) (.ik 1)) (.ic az) .ho)) aS (wW (bV (eC [_] [] 0 (.ik 0) (.iv 0) (.hz (.ik 0) (.iv 0) .ho) aS fn.1))) fn.2))) (bz (F:=OM) rfl rfl rfl (cL (dD (ah rfl) aA (fi (i:=1) h1 fO rfl)) rfl (lR (bT (ah rfl) aA rfl) (FY (ah rfl) aA (sO (j:=1) h1 (ab rfl) fO)) (cL ec rfl (aC (iU es (FY (ah rfl) aA (sO (j:=2) g1 (ab rfl) fO))) (eQ (kL ((bT (ah rfl) (ah rfl) (zV hn)).trans (by erw [bV fn.1];rfl))))))))) (⟨cells,turn+1,_,cP (bx g1),cX ne g2,dB h3,fs.1,fs.2,h6⟩) ((Keep.set λo=>o rfl).trans (Keep.set λo=>o rfl))
def Pb(D:Deck H dk sc τ)(hτ:τ<=100000)(hv:0<vs.length)(hl:vs.length<=1000000):∃(i:Nat) (v:AV) (H':Hp),vs[i]? =some v/\aQ (d+2) H 123 [.ref dk, .a vs] (v,H')/\Deck H' dk sc (τ+1)/\Keep (·≠dk) H H':=by
 refine fy (Ma (d:=d) D hv hτ) λi H' hi e D' K=>?_;refine pS i (vs[i]) H' (bq hi) (bz (F:=LU) rfl rfl rfl (fx (dD (ah rfl) (bj (bW rfl (ak (eI (bW rfl aq) ?_) aq)) e) ?_))) D' K
 ·show eV (cG vs.length) _=_
  erw [aN hl];rfl
 ·show(wY i vs.length).bind (λj=>vs[j]?)=_;unfold wY
  erw [aN hl]
  show(match cg i vs.length with | true=>some i | false=>none).bind _=_
  erw [cM.mpr hi]
  exact bq hi
def yJ(D:Deck H dk sc τ)(hτ:τ<=100000)(hk:Hk H k (.list vs))(hkd:k≠dk)(hv:0<vs.length)(hl:vs.length<=1000000):∃(i:Nat) (v:AV) (H':Hp),vs[i]? =some v/\aQ (d+2) H 123 [.ref dk, .ref k] (v,H')/\Deck H' dk sc (τ+1)/\Keep (·≠dk) H H':=by
 refine fy (Ma (d:=d) D hv hτ) λi H' hi e D' K=>?_;exact pS i (vs[i]) H' (bq hi) (bz (F:=LU) rfl rfl rfl (fx (dD (ah rfl) (bj (bW rfl (ak (eI (bW rfl aq) (ku hk hl)) aq)) e) (fi (K.at_ _ _ hkd hk) hl (bq hi))))) D' K
end
end
mutual
structure LW(H:Hp)(dk sc tb rw dc τ:Nat)(es:List (List Nat×AV)):Prop where
 hD:Deck H dk sc τ
 hT:Tb H tb rw dc es
 nr:dk≠rw
 ns:sc≠rw
abbrev Hl(dk rw dc k:Nat):Prop:=k≠dk/\k≠rw/\k≠dc
structure Made(H H':Hp)(dk sc tb rw dc τ:Nat)(es es':List (List Nat×AV))(ki:Nat)(x:D):Prop where
 W:LW H' dk sc tb rw dc τ es'
 sb:Sub es es'
 it:∃v,Hk H' ki (.list [v, .str (tx true x), .str (tx false x)])/\H.length<=ki/\gJ (Nw H.length H' es') H' v x
 g:x.good
 K:Keep (Hl dk rw dc) H H'
end
section
mutual
variable{j:Int}
variable{d n:Nat}{H au H':Hp}{dk sc tb rw dc τ k i:Nat}{es es':List (List Nat×AV)}{v:AV}{x:D}{ls:Ls}
def Deck.cells(h:Deck H dk sc τ):(∃a b c,Hk H dk (.list [a,b,c]))/\∃vs,Hk H sc (.list vs):=by
 refine B3 (h.ex) λcells turn st h1 h2 zz=>?_;exact⟨⟨_,_,_,h1⟩,_,h2⟩
def LW.low(W:LW H dk sc tb rw dc τ es):dk<H.length/\sc<H.length/\tb<H.length/\rw<H.length/\dc<H.length:=by
 obtain⟨xq1,vs,h2⟩:=W.hD.cells;refine ub xq1 λa b c h1=>?_;refine aM (W.hT.hr) λrs h3 zz=>?_;exact we (bx h1) (bx h2) (bx W.hT.ht) (bx h3) (bx W.hT.hd)
def LW.draw{τ':Nat}(W:LW H dk sc tb rw dc τ es)(K:Keep (·≠dk) H H')(D':Deck H' dk sc τ'):LW H' dk sc tb rw dc τ' es:=by
 obtain⟨xq2,_⟩:=W.hD.cells;refine ub xq2 λa b c h=>?_;exact⟨D',W.hT.keep K (ba W.hT.ht h λe=>nomatch e) W.nr.symm (ba W.hT.hd h λe=>nomatch e) (λk n s g=>ba g h λe=>nomatch e),W.nr,W.ns⟩
def LW.keep{ok:Nat->Prop}(W:LW H dk sc tb rw dc τ es)(K:Keep ok H H')(h:∀k,k<H.length->ok k):LW H' dk sc tb rw dc τ es:=by
 have K':Keep all H H':=K.below λk e zz=>h k e;exact⟨W.hD.keep K' trivial trivial,W.hT.keep K' trivial trivial trivial (λzz zy zx zw=>trivial),W.nr,W.ns⟩
def LW.more(W:LW H dk sc tb rw dc τ es)(K:Keep all H H'):LW H' dk sc tb rw dc τ es:=W.keep K λzz zy=>trivial
def LW.sym(W:LW H dk sc tb rw dc τ es)(T':Tb H' tb rw dc es')(K:Keep (λi=>i≠rw/\i≠dc) H H'):LW H' dk sc tb rw dc τ es':=by
 obtain⟨xq3,vs,h2⟩:=W.hD.cells;refine ub xq3 λa b c h1=>?_;exact⟨W.hD.keep K ⟨W.nr,ba h1 W.hT.hd λe=>nomatch e⟩ ⟨W.ns,ba h2 W.hT.hd λe=>nomatch e⟩,T',W.nr,W.ns⟩
def LW.le{σ:Nat}(W:LW H dk sc tb rw dc τ es)(e:τ<=σ):LW H dk sc tb rw dc σ es:=⟨W.hD.le e,W.hT,W.nr,W.ns⟩
def LW.d122(W:LW H dk sc tb rw dc τ es)(hn:0<n)(hτ:τ<=100000):∃i H',i<n/\aQ (d+1) H 122 [.ref dk, .int n] (.int (i:Nat),H')/\LW H' dk sc tb rw dc (τ+1) es/\Keep (·≠dk) H H':=by
 refine fy (Ma (d:=d) W.hD hn hτ) λi H' hi e D' K=>?_;exact d4 i H' hi e (W.draw K D') K
def LW.d123{vs:List AV}(W:LW H dk sc tb rw dc τ es)(hτ:τ<=100000)(hv:0<vs.length)(hl:vs.length<=1000000):∃(i:Nat) (v:AV) (H':Hp),vs[i]? =some v/\aQ (d+2) H 123 [.ref dk, .a vs] (v,H')/\LW H' dk sc tb rw dc (τ+1) es/\Keep (·≠dk) H H':=by
 refine gT (Pb (d:=d) W.hD hτ hv hl) λi v H' hi e D' K=>?_;exact pS i v H' hi e (W.draw K D') K
def IS{b ss:List S}{o:Fl×Ls×Hp}(h2:ls[2]? =some (some (.int (i:Nat))))(h:((i:Nat):Int)≠j)(g:gI d ls H ss o):gI d ls H (.ite (.j .eq (.v 2) (.lit (.int j))) b []::ss) o:=ij (gO (ah h2) aA (kA h)) g
def Mp{b ss:List S}{ls':Ls}(h2:ls[2]? =some (some (.int (i:Nat))))(h:((i:Nat):Int)=j)(g:gI d ls H b (.ret v,ls',H')):gI d ls H (.ite (.j .eq (.v 2) (.lit (.int j))) b []::ss) (.ret v,ls',H'):=mw (gO (ah h2) aA (dT h)) g
def hZ{a b c:E}{aP dM:Hp}{u v w:AV}(ha:Re d ls H a (u,au))(hb:Re d ls au b (v,aP))(hc:Re d ls aP c (w,dM)):Re d ls H (.list [a,b,c]) (.ref dM.length,dM++ [.list [u,v,w]]):=fK (ak ha (ak hb (ak hc aq))) (aN fO)
def xN(W:LW au dk sc tb rw dc τ es')(S:Sub es es')(K:Keep (Hl dk rw dc) H au)(g:x.good)(r:gJ (Nw H.length au es') au v x):Made H (au++ [.list [v, .str (tx true x), .str (tx false x)]]) dk sc tb rw dc τ es es' au.length x:=
 ⟨W.more Keep.app,S,(eH v aV K.len (r.move (ok:=all) Keep.app iD.lt .refl (ay _))),g,K.trans Keep.app⟩
def uu(K:Keep (·≠dk) H H'):Keep (Hl dk rw dc) H H':=K.weak λzz o=>o.1
def BB{i:Int}{m:Nat}(h:i.natAbs<=m)(hm:m<=1000):fR i=true:=by
 unfold fR;exact cM.mpr (fC (aj h hm) (ao (show 1000<2 ^ 10 from ab rfl) (cq (cI _) (ab rfl))))
def vz{i:Int}(h:i.natAbs<=1000):BS .str [.int i] H=some (.str (dH i),H):=by
 show eV (fR i) _=_
 erw [(BB h (by decide))]
 rfl
noncomputable abbrev Uz(dk tb k:Nat):Ls:= [some (.ref dk),some (.ref tb),some (.int (k:Nat)),none,none,none,none,none,none,none,none,none,none,none,none,none]
abbrev oY(d:Nat)(H:Hp)(dk sc tb rw dc τ:Nat)(es:List (List Nat×AV))(b:List S)(k:Nat):Prop:= ∃ki x H' es' ls',gI (d+3) (Uz dk tb k) H b (.ret (.ref ki),ls',H')/\Made H H' dk sc tb rw dc (τ+6) es es' ki x/\x.atom=true
abbrev KT(k:Nat):List S:=match Fg.body[k+1]? with
 | some (.ite _ b _)=>b
 | _=> []
def NR(W:LW H dk sc tb rw dc τ es)(hτ:τ<=90000):oY d H dk sc tb rw dc τ es (KT 0) 0:=by
 refine fy (W.d122 (d:=d+2) (n:=2) (by decide) (by exact(cA ai (aI 100000) [(ai,aI 90000)] aS hτ))) λi au hi e W1 K=>?_;have q:∃b:Bool,iI au .eq (.int i) (.int 1)=some b:=⟨_,rfl⟩;obtain⟨b,q⟩:=q;have t:∀{H':Hp},Re (d+3) [some (.ref dk),some (.ref tb),some (.int ((0:Nat):Int)),some (.bool b),none,none,none,none,none,none,none,none,none,none,none,none] H' (.ife (.v 3) (.lit (.str [35,116])) (.lit (.str [35,102]))) (.str [35,if b then 116 else 102],H'):=by
  intro H'
  cases b using aG with
  | true=>exact eX (gF rfl (ah rfl)) aA
  | false=>exact fz (gF rfl (ah rfl)) aA
 exact yh _ (.bool b) _ es _ (cL (dy (bj (bW rfl (gS aq)) e) aA q) rfl (fx (hZ (ah rfl) t t))) (xN (x:= .bool b) (W1.le (σ:=τ+6) (by exact(cA bh (aK ai (aI 6)) [] aS))) .refl (uu K) trivial rfl) rfl
def NQ(W:LW H dk sc tb rw dc τ es)(hτ:τ<=90000):oY d H dk sc tb rw dc τ es (KT 1) 1:=by
 refine fy (W.d122 (d:=d+2) (n:=2000) (by decide) (by exact(cA ai (aI 100000) [(ai,aI 90000)] aS hτ))) λi au hi e W1 K=>?_;have h:((i:Int)-1000).natAbs<=1000:=by exact(pL (eC [] [_] 0 (.ik 0) (.ip (.is (.ic ai) (.ik 1000)) (.ic (aI 1000))) .ho aS) (eC [] [_] 0 (.is (.ic ai) (.ik 1000)) (.ic (aI 1000)) (.hn bh (aI 2000) .ho) aS hi))
 exact yh _ (.int ((i:Int)-1000)) _ es _ (cL (bT (bj (bW rfl (gS aq)) e) aA rfl) rfl (fx (hZ (ah rfl) (eI (bW rfl aq) (vz h)) (eI (bW rfl aq) (vz h))))) (xN (x:= .int ((i:Int)-1000)) (W1.le (σ:=τ+6) (by exact(cA bh (aK ai (aI 6)) [] aS))) .refl (uu K) (show -1000<=(i:Int)-1000/\(i:Int)-1000<1000 from by exact⟨(eC [] [_] 0 (.ik (-1000)) (.is (.ic ai) (.ik 1000)) .ho aS),(eC [] [_] 0 (.ip (.is (.ic ai) (.ik 1000)) (.ik 1)) (.ik 1000) (.hn bh (aI 2000) .ho) aS hi)⟩) rfl) rfl
def NJ(W:LW H dk sc tb rw dc τ es):oY d H dk sc tb rw dc τ es (Fg.body.drop 8) 7:=
 (yh _ .empty _ es _ (fx (hZ aA aA aA)) (xN (x:= .empty) (W.le (σ:=τ+6) (by exact(cA ai (aK ai (aI 6)) [] aS))) .refl .refl trivial rfl) rfl)
def NP(W:LW H dk sc tb rw dc τ es)(hτ:τ<=90000):oY d H dk sc tb rw dc τ es (KT 2) 2:=by
 refine fy (W.d122 (d:=d+2) (n:=8) (by decide) (by exact(cA ai (aI 100000) [(ai,aI 90000)] aS hτ))) λi au hi e1 W1 K1=>?_;refine fy (W1.d122 (d:=d+2) (n:=20) (by decide) (by exact(cA bh (aI 100000) [(ai,aI 90000)] aS hτ))) λj aP hj e2 W2 K2=>?_;have g:2<=(2+(i:Int))/\(2+(i:Int))<10/\∃k:Int,-10<=k/\k<10/\(2+(i:Int))*((j:Int)-10)+1=(2+(i:Int))*k+1:=⟨by exact(eC [] [_] 0 (.ik 2) (.ip (.ik 2) (.ic ai)) .ho aS),by exact(eC [] [_] 0 (.ip (.ip (.ik 2) (.ic ai)) (.ik 1)) (.ik 10) (.hn bh (aI 8) .ho) aS hi),(j:Int)-10,by exact(eC [] [_] 0 (.ik (-10)) (.is (.ic ai) (.ik 10)) .ho aS),by exact(eC [] [_] 0 (.ip (.is (.ic ai) (.ik 10)) (.ik 1)) (.ik 10) (.hn bh (aI 20) .ho) aS hj),rfl⟩;refine Gp (pD g.1 g.2.1 g.2.2) λm hm zz h1 h2 zy=>?_;have h3:(2+(i:Int)).natAbs<=1000:=by exact(pL (eC [] [_] 0 (.ik 0) (.ip (.ip (.ik 2) (.ic ai)) (.ic (aI 1000))) .ho aS) (eC [] [_] 0 (.ip (.ik 2) (.ic ai)) (.ic (aI 1000)) (.hn bh (aI 8) .ho) aS hi))
 have l1:=iY h2;have l2:=iY h3;have f1:fR (2+(i:Int))=true:=pW (by exact(eC [] [_] 0 (.ik 0) (.ip (.ik 2) (.ic ai)) .ho aS)) (by exact(eC [] [_] 0 (.ip (.ip (.ik 2) (.ic ai)) (.ik 1)) (.ik 4294967296) (.hn bh (aI 8) .ho) aS hi));have f2:fR ((j:Int)-10)=true:=BB (m:=10) (by exact(pL (eC [] [_] 0 (.ik 0) (.ip (.is (.ic ai) (.ik 10)) (.ic (aI 10))) .ho aS) (eC [] [_] 0 (.is (.ic ai) (.ik 10)) (.ic (aI 10)) (.hn bh (aI 20) .ho) aS hj))) (by decide);have t:∀{H':Hp} {a b c d' e' f g' h' i':Option AV},Re (d+3) [a,b,c,d',e',some (.int (2+(i:Int))),some (.int ((2+(i:Int))*((j:Int)-10)+1)),none,none,none,none,none,none,none,none,none] H' (.o .add (.o .add (.bi .str [(.v 6)]) (.lit (.str [47]))) (.bi .str [(.v 5)])) (.str (dH ((2+(i:Int))*((j:Int)-10)+1)++ [47]++dH (2+(i:Int))),H'):=fun{H' a b c d' e' f g' h' i'}=>bT (bT (eI (bW rfl aq) (vz h2)) aA (d9 (by show _+1<=_;exact(cA bh cY [(ai,aI 5)] aS l1)))) (eI (bW rfl aq) (vz h3)) (d9 (by erw [ag];show _+1+_<=_;exact(bF (aK bh az) cY [(az,aI 5),(ai,aI 5)] aS l2 l1)));refine yh _ (.ratio ((2+(i:Int))*((j:Int)-10)+1) (2+(i:Int))) _ es _ (cL (bT aA (bj (bW rfl (gS aq)) e1) rfl) rfl (cL (bT (bT (ah rfl) (bT (bj (bW rfl (ak aA aq)) e2) aA rfl) (Hv f1 f2)) aA rfl) rfl (fx (hZ (gH (ak (ah rfl) (ak (ah rfl) aq)) rfl Tj) (t (f:=none) (g':=none) (h':=none) (i':=none)) (t (f:=none) (g':=none) (h':=none) (i':=none)))))) (xN (x:= .ratio ((2+(i:Int))*((j:Int)-10)+1) (2+(i:Int))) ((W2.more Keep.app).le (σ:=τ+6) (by exact(cA (eT bh) (aK ai (aI 6)) [] aS))) .refl (((uu K1).trans (uu K2)).trans Keep.app) g (eH _ rfl (jY aV rfl (λzz zy h=>nomatch h)) aV)) rfl
end
end
section
mutual
variable{d n:Nat}{H au H':Hp}{dk sc tb rw dc τ k i:Nat}{es es':List (List Nat×AV)}{v:AV}{x:D}{ls:Ls}
def NO(W:LW H dk sc tb rw dc τ es)(hτ:τ<=90000):oY d H dk sc tb rw dc τ es (KT 3) 3:=by
 refine gT (W.d123 (d:=d+1) (vs:=m5.map λr=> .U [.int r.1, .int r.2, .str (fQ r.1 r.2)]) (by exact(cA ai (aI 100000) [(ai,aI 90000)] aS hτ)) (by decide) (by decide)) λi v au hi e W1 K=>?_;refine aM (cN.mp (bN hi)) λxq1 hm xq2=>?_;obtain⟨m,ex⟩:=xq1;subst xq2;have g:(D.real m ex).good:=hm;exact yh _ (.real m ex) _ es _ (lR (bj (bW rfl (gS aq)) e) (mr (dj (eu rfl) (dj (eu rfl) (dj (eu rfl) jF)))) (fx (hZ (gH (bW rfl (ak (ah rfl) aq)) rfl Tn) (ah rfl) (ah rfl)))) (xN (x:= .real m ex) ((W1.more Keep.app).le (σ:=τ+6) (by exact(cA bh (aK ai (aI 6)) [] aS))) .refl ((uu K).trans Keep.app) g (eH _ rfl (jY aV rfl (λzz zy h=>nomatch h)) aV)) rfl
def NN(W:LW H dk sc tb rw dc τ es)(hτ:τ<=90000):oY d H dk sc tb rw dc τ es (KT 4) 4:=by
 refine gT (W.d123 (d:=d+1) (vs:=names.map .str) (by exact(cA ai (aI 100000) [(ai,aI 90000)] aS hτ)) (by decide) (by decide)) λi v au hi e W1 K=>?_;refine aM (cN.mp (bN hi)) λs hs xq3=>?_;subst xq3;refine jX (c4 (d:=d+1) W1.hT hs) λk' es' aP e2 T2 sb g K2=>?_;refine gz (T2.hs s _ g) λj m ej hj=>?_;cases ej
 exact yh _ (.sym s) _ es' _ (cL (bj (bW rfl (gS aq)) e) rfl (fx (hZ (i5 rfl W1.hT.ht rfl rfl rfl (ak (ah rfl) aq) e2) (ah rfl) (ah rfl)))) (xN (x:= .sym s) ((W1.sym T2 K2).le (σ:=τ+6) (by exact(cA bh (aK ai (aI 6)) [] aS))) sb ((uu K).trans (K2.weak λzz o=>o.2)) hs (i7 k' m rfl (⟨λc h=>by cases hj.symm.trans h;exact .inr rfl,λi s' h=>by cases hj.symm.trans h;exact g⟩) hj)) rfl
def RC{c:Nat}(hc:c<1114112):aQ (d+1) H 126 [.int (c:Int)] (.str (g9 c),H):=by
 have l:(([(32,[115,112,97,99,101]),(10,[110,101,119,108,105,110,101])]:List (Int×List Nat)).lookup (c:Int)).getD [c]=(if c=32 then [115,112,97,99,101]else if c=10 then [110,101,119,108,105,110,101]else [c]):=by
  rcases Decidable.em (c=32)with h | h
  ·subst h;rfl
  ·rcases Decidable.em (c=10)with h2 | h2
   ·subst h2;rfl
   ·erw [if_neg h,if_neg h2]
    have b1:((c:Int)==32)=false:=beq_eq_false_iff_ne.mpr λe=>h (o6 e);have b2:((c:Int)==10)=false:=beq_eq_false_iff_ne.mpr λe=>h2 (o6 e)
    erw [List.lookup_cons,b1,List.lookup_cons,b2];rfl
 have e:=L4 (d:=d) (ls:= [some (.int (c:Int)),none,none]) (a:= .v 0) (b:= .bi .chr [.v 0]) (t:= [(32,[115,112,97,99,101]),(10,[110,101,119,108,105,110,101])]) (ah (H:=H) rfl) (eI (bW rfl aq) (oX hc));rw[l]at e;refine bz (F:=OK) rfl rfl rfl (fx (bT aA e (d9 ?_)));rcases Decidable.em (c=32)with h | h
 ·erw [if_pos h];exact ab rfl
 ·rcases Decidable.em (c=10)with h2 | h2
  ·erw [if_neg h,if_pos h2];exact ab rfl
  ·erw [if_neg h,if_neg h2];exact ab rfl
def NM(W:LW H dk sc tb rw dc τ es)(hτ:τ<=90000):oY d H dk sc tb rw dc τ es (KT 5) 5:=by
 have l1:BS .list [.rng 33 95 1] H=some (.ref H.length,H++ [.list ((cS 62).map λi:Nat=> .int (33+(i:Int)*1))]):=by
  have e1:hO 33 95 1=62:=by decide
  show eV (cG (hO 33 95 1) && cy 33 95 1) (some (lN H (.list ((cS (hO 33 95 1)).map λi:Nat=> .int (33+(i:Int)*1)))))=_
  erw [e1,aN (ab rfl),(show cy 33 95 1=true from by decide)]
  rfl
 have hA:=aV (H:=H) (c:= .list ((cS 62).map λi:Nat=> .int (33+(i:Int)*1)));have l2:nY .add (.ref H.length) (.a (mm.map λc:Nat=> .int c)) (H++ [.list ((cS 62).map λi:Nat=> .int (33+(i:Int)*1))])=some (.ref (H++ [Cell.list ((cS 62).map λi:Nat=>AV.int (33+(i:Int)*1))]).length,H++ [.list ((cS 62).map λi:Nat=> .int (33+(i:Int)*1))]++ [.list (((cS 62).map λi:Nat=>AV.int (33+(i:Int)*1))++mm.map λc:Nat=> .int c)]):=by
  show eV true ((aF _ H.length).bind λx=>(D5 _ (AV.a _)).bind λy=>eV (cG (x.length+y.length)) (some (lN _ (.list (x++y)))))=_
  erw [fj hA]
  show eV (cG (((cS 62).map λi:Nat=>AV.int (33+(i:Int)*1)).length+(mm.map λc:Nat=>AV.int c).length)) _=_
  erw [(aN (by erw [aL,aL,oz];exact ab rfl))]
  rfl
 have K0:Keep all H (H++ [Cell.list ((cS 62).map λi:Nat=>AV.int (33+(i:Int)*1))]++ [Cell.list (((cS 62).map λi:Nat=>AV.int (33+(i:Int)*1))++mm.map λc:Nat=> .int c)]):=Keep.app.trans Keep.app;have W0:=W.more K0;have gk:=aV (H:=H++ [Cell.list ((cS 62).map λi:Nat=>AV.int (33+(i:Int)*1))]) (c:= .list (((cS 62).map λi:Nat=>AV.int (33+(i:Int)*1))++mm.map λc:Nat=> .int c));have nk:(H++ [Cell.list ((cS 62).map λi:Nat=>AV.int (33+(i:Int)*1))]).length≠dk:=by
  have:=W.low.1
  erw [ag]
  show H.length+1≠dk
  exact(λzz=>(CM [(bh,az),(cO,ai)] aS this (pK zz)))
 refine gT (yJ (d:=d+1) W0.hD (by exact(cA ai (aI 100000) [(ai,aI 90000)] aS hτ)) gk nk (by erw [ag,aL,oz];exact eF ..) (by erw [ag,aL,aL,oz];exact ab rfl)) λi v au hi e D1 K=>?_;have W1:=W0.draw K D1;have hv:∃c:Nat,v= .int c/\((33<=c/\c<95)\/c∈mm):=by
  rcases dz.mp (bN hi)with m | m
  ·refine aM (cN.mp m) λj hj xq4=>?_;subst xq4;have:=List.mem_range.mp hj;exact bI (33+j) (by erw [Int.mul_one];rfl) (.inl ⟨by exact(cA (aI 33) (aK (aI 33) ai) [] aS),by exact(cA (eT (aK (aI 33) ai)) (aI 95) [(bh,aI 62)] aS this)⟩)
  ·refine aM (cN.mp m) λc hc xq5=>?_;subst xq5;exact bI c rfl (.inr hc)
 refine aM hv λc xq6 hc=>?_;subst xq6;have lc:c<1114112:=by
  cases hc using cW with
  | inl h=>exact(cA bh (aI 1114112) [(bh,aI 95)] aS h.2)
  | inr h=>exact qf c h
 have g:(D.char c).good:=hc;exact yh _ (.char c) _ es _ (cL (bj (bW rfl (ak (bT (eI (ak (eI (gS (ak aA aq)) rfl) aq) l1) aA l2) aq)) e) rfl (fx (hZ (gH (bW rfl aq) rfl Ts) (bj (bW rfl aq) (RC lc)) (eI (bW rfl aq) (oX lc))))) (xN (x:= .char c) ((W1.more Keep.app).le (σ:=τ+6) (by exact(cA bh (aK ai (aI 6)) [] aS))) .refl (((K0.weak λzz zy=>trivial).trans (uu K)).trans Keep.app) g (eH _ rfl (jY aV rfl (λzz zy h=>nomatch h)) aV)) rfl
end
end
mutual
def xv:∀(s:List Nat),dw 34 [92,34] (dw 92 [92,92] s)=cB s
 | []=>rfl
 | c::s=>by
  have ih:=xv s;rcases Decidable.em (c=92)with h | h
  ·subst h;show 92::92::dw 34 [92,34] (dw 92 [92,92] s)=if 92=34\/92=92 then 92::92::cB s else _
   erw [if_pos (.inr rfl),ih];rfl
  ·have b1:aX c 92=false:=gN.mpr λe=>h (aW e);have e1:dw 92 [92,92] (c::s)=c::dw 92 [92,92] s:=by
    show(match aX c 92 with | true=>_ | false=>c::dw 92 [92,92] s)=_
    erw [b1];rfl
   erw [e1]
   rcases Decidable.em (c=34)with h2 | h2
   ·subst h2;show 92::34::dw 34 [92,34] (dw 92 [92,92] s)=if 34=34\/34=92 then 92::34::cB s else _
    erw [if_pos (.inl rfl),ih];rfl
   ·have b2:aX c 34=false:=gN.mpr λe=>h2 (aW e);show(match aX c 34 with | true=>_ | false=>c::dw 34 [92,34] (dw 92 [92,92] s))=if c=34\/c=92 then _ else c::cB s
    erw [b2,(if_neg (λe=>e.elim h2 h)),ih];rfl
def xu:∀(s:List Nat),(dw 92 [92,92] s).length<=2*s.length
 | []=>ay _
 | c::s=>by
  have ih:=xu s;show(match aX c 92 with | true=> [92,92]++dw 92 [92,92] s | false=>c::dw 92 [92,92] s).length<=2*(s.length+1);cases aX c 92 with
  | true=>show(dw 92 [92,92] s).length+1+1<=_;exact(bF (eT bh) (f6 2 cO) [(ai,f6 2 az)] aS ih)
  | false=>show(dw 92 [92,92] s).length+1<=_;exact(bF bh (f6 2 cO) [(ai,f6 2 az)] aS ih)
def LX{s:List Nat}(h:s.length<=1000):Fi [34] (.str s) 92 [92,92] 34 [92,34]=some (.str ([34]++cB s)):=by
 have l1:=xu s;have l2:=jR s;show eV (cG s.length && cG (dw 92 [92,92] s).length && cG (1+(dw 34 [92,34] (dw 92 [92,92] s)).length) && true && true && true && true) (some (AV.str ([34]++dw 34 [92,34] (dw 92 [92,92] s))))=_
 erw [xv,(aN (by exact(cA ai cY [(ai,aI 1000)] aS h))),(aN (by exact(bF ai cY [(ai,f6 2 az),(az,aI 1000),(az,aI 1000)] aS l1 h h))),(aN (by exact(bF (aK (aI 1) ai) cY [(ai,f6 2 az),(az,aI 1000),(az,aI 1000)] aS l2 h h)))]
 rfl
end
section
mutual
variable{j:Nat}
variable{d n:Nat}{H au H':Hp}{dk sc tb rw dc τ k kl i:Nat}{es es':List (List Nat×AV)}{v:AV}{x:D}{ls:Ls}
def LW.put{c:Cell}{vs:List AV}(W:LW H dk sc tb rw dc τ es)(hk:Hk H kl (.list vs))(h1:kl≠dk)(h2:kl≠sc)(h3:kl≠rw):LW (H.set kl c) dk sc tb rw dc τ es:=by
 have K:Keep (·≠kl) H (H.set kl c):=Keep.set λo=>o rfl;exact⟨W.hD.keep K h1.symm h2.symm,W.hT.keep K (ba W.hT.ht hk λe=>nomatch e) h3.symm (ba W.hT.hd hk λe=>nomatch e) (λk n s g=>ba g hk λe=>nomatch e),W.nr,W.ns⟩
noncomputable abbrev TX(dk tb k:Nat)(x:Option AV):Ls:= [some (.ref dk),some (.ref tb),some (.int (k:Nat)),none,none,none,none,none,none,none,none,none,none,none,x,none]
def u7(h1:kl≠dk)(h2:kl≠sc)(h3:kl≠rw):∀(m:Nat) {H:Hp} {τ:Nat} {us:List Nat} {a:Int} {x:Option AV},LW H dk sc tb rw dc τ es->Hk H kl (.list (us.map λc:Nat=> .int c))->us.length+m<=1000->τ+m<=100000->(∀c∈us,c∈mm)->
  ∃(cs:List Nat) (H':Hp),cs.length=us.length+m/\(∀c∈cs,c∈mm)/\lP (d+3) (TX dk tb k x) H (.rng a 1 m) (.one 14) none (.call 123 [(.v 0),(.lit (.a (mm.map λc:Nat=> .int c)))]) kl H'/\LW H' dk sc tb rw dc (τ+m) es/\Hk H' kl (.list (cs.map λc:Nat=> .int c))/\Keep (λi=>i≠dk/\i≠kl) H H'
 | 0,H,τ,us,a,x,W,hk,_,_,hc=>(HS us H rfl hc (gq rfl) W hk .refl)
 | m+1,H,τ,us,a,x,W,hk,hu,hτ,hc=>by
  refine gT (W.d123 (d:=d+1) (vs:=mm.map λc:Nat=> .int c) (by exact(bF ai (aI 100000) [(aK ai cO,aI 100000)] aS hτ)) (by decide) (by decide)) λi v au hi e W1 K1=>?_;refine aM (cN.mp (bN hi)) λc hm xq1=>?_;subst xq1;have g1:=K1.at_ _ _ h1 hk;have W2:=W1.put (c:= .list ((us++ [c]).map λc:Nat=> .int c)) g1 h1 h2 h3;refine Go (u7 h1 h2 h3 m (a:=a+1) (x:=some (.int a)) W2 (cP (bx g1)) (by erw [ag];show us.length+1+m<=_;exact(bF (aK bh az) (aI 1000) [(aK ai cO,aI 1000)] aS hu)) (by exact(bF (aK bh az) (aI 100000) [(aK ai cO,aI 100000)] aS hτ)) (λy hy=>(dz.mp hy).elim (hc y) λq=>by erw [fD.mp q];exact hm)) λcs H' l hcs e2 W3 hk' K3=>?_;refine HS cs H' (by erw [l,ag];show us.length+1+m=_;exact gr ..) hcs (i4 (v:= .int a) (it':= .rng (a+1) 1 m) rfl rfl (bj (bW rfl (gS aq)) e) g1 (aN (by erw [aL];exact(bF ai cY [(aK ai cO,aI 1000)] aS hu))) ?_) ((by erw [(show τ+(m+1)=τ+1+m from by exact(bJ (bF (aK ai cO) (aK bh az) [] aS) (bF (aK bh az) (aK ai cO) [] aS)))];exact W3)) hk' ((K1.weak λzz o=>o.1).trans ((Keep.set λo=>o.2 rfl).trans K3))
  erw [(show(us.map λc:Nat=>AV.int c)++ [.int c]=(us++ [c]).map λc:Nat=> .int c from by erw [bc];rfl)]
  exact e2
def N7{H:Hp}:∀i:Nat,i<5->gC H (.rng 0 i 1)=some (.rng 0 1 i):=by
 have t:∀i:Nat,i<5->cy 0 i 1=true/\hO 0 i 1=i:=by decide
 intro i h;show eV (cy 0 i 1) (some (It.rng 0 1 (hO 0 i 1)))=_
 erw [(t i h).1,(t i h).2];rfl
def NL(W:LW H dk sc tb rw dc τ es)(hτ:τ<=90000):oY d H dk sc tb rw dc τ es (KT 6) 6:=by
 refine fy (W.d122 (d:=d+2) (n:=5) (by decide) (by exact(cA ai (aI 100000) [(ai,aI 90000)] aS hτ))) λi au hi e1 W1 K1=>?_;have low:=W1.low;have K2:Keep all au (au++ [.list []]):=Keep.app;refine Go (u7 (d:=d) (tb:=tb) (dc:=dc) (k:=6) (kl:=au.length) (es:=es) (Ne.symm (aE low.1)) (Ne.symm (aE low.2.1)) (Ne.symm (aE low.2.2.2.1)) i (us:= []) (a:=0) (x:=none) (W1.more K2) aV (by show 0+i<=_;exact(cA (aK (aI 0) ai) (aI 1000) [(bh,aI 5)] aS hi)) (by exact(bF (aK bh az) (aI 100000) [(cO,aI 5),(ai,aI 90000)] aS hi hτ)) (λzz m=>nomatch m)) λcs aP l hcs e2 W2 hk K3=>?_;rw[dX,ji]at l;have lc:cs.length<=1000000:=by exact(bF ai cY [(ai,az),(cO,aI 5)] aS (pK l) hi)
 have fl:(cs.map λc=> [c]).flatten=cs:=pV cs;have em:Re (d+3) [some (.ref dk),some (.ref tb),some (.int ((6:Nat):Int)),none,none,none,none,none,none,none,none,none,some (.ref au.length),none,none,none] aP (.comp (.bi .chr [.v 14]) (.one 14) (.v 12) false none) (.ref aP.length,aP++ [.list ((cs.map λc=> [c]).map .str)]):=by
  erw [iC]
  exact JQ (f:=λc:Nat=> .int c) (g:=λc=> .str [c]) rfl rfl (ah rfl) hk (λx m ls H hi=>JS hi (qf x (hcs x m))) lc
 have j:=oV em aV (by erw [aL];exact lc) (by erw [fl];exact lc);rw[fl]at j;have g:(D.text cs).good:=⟨by exact(bF ai (aI 4) [(ai,az),(cO,aI 5)] aS (pK l) hi),hcs⟩;have Ka:Keep (λi=>Hl dk rw dc i/\i<au.length) H (aP++ [.list ((cs.map λc=> [c]).map .str)]):=(K1.weak λzz o=>o.1.1).trans ((K2.weak λzz zy=>trivial).trans ((K3.weak λi o=>⟨o.1.1,aE o.2⟩).trans Keep.app));have K4:Keep (Hl dk rw dc) H (aP++ [.list ((cs.map λc=> [c]).map .str)]):=Ka.below λi h o=>⟨o,ao h K1.len⟩;have gk:Hk (aP++ [Cell.list ((cs.map λc=> [c]).map AV.str)]++ [Cell.n 5 [(19,AV.ref au.length)]]) (au.length) (.list (cs.map λc:Nat=> .int c)):=bD (bD hk);have el:=jR cs;exact yh _ (.text cs) _ es _ (cL (k7 rfl (eI (ak (bj (bW rfl (gS aq)) e1) aq) rfl) (N7 i hi) e2) rfl (cL j rfl (fx (hZ (gH (ak (ah rfl) aq) rfl Tr) (bT (O0 (ah rfl) (LX (by exact(bF ai (aI 1000) [(ai,az),(cO,aI 5)] aS (pK l) hi)))) aA (d9 (by erw [ag];show 1+_+1<=_;exact(gn (eT (aK (aI 1) ai)) cY [(ai,f6 2 az),(az,bH),(az,bH),(mc,aI 5),(mc,aI 5)] aS el (pK l) (pK l) hi hi)))) (ah rfl))))) (xN (x:= .text cs) ((((W2.more Keep.app).more Keep.app).le (σ:=τ+6) (by exact(bF (aK bh az) (aK ai (aI 6)) [(cO,aI 5)] aS hi)))) .refl (K4.trans Keep.app) g (CG _ au.length rfl (jY aV rfl (λzz zy h=>nomatch h)) aV (⟨λc zz=> .inl K1.len,λi s e=>nomatch gk.symm.trans e⟩) gk)) rfl
def oY.hit{b ss:List S}(P:oY d H dk sc tb rw dc τ es b j):oY d H dk sc tb rw dc τ es (.ite (.j .eq (.v 2) (.lit (.int (j:Int)))) b []::ss) j:=
 P.elim λki h=>h.elim λx h=>h.elim λH' h=>h.elim λes' h=>h.elim λls' h=>(Oh ki x H' es' ls' (Mp rfl rfl h.1) h.2)
def oY.skip{b ss:List S}{k:Int}(h:(j:Int)≠k)(P:oY d H dk sc tb rw dc τ es ss j):oY d H dk sc tb rw dc τ es (.ite (.j .eq (.v 2) (.lit (.int k))) b []::ss) j:=
 P.elim λki q=>q.elim λx q=>q.elim λH' q=>q.elim λes' q=>q.elim λls' q=>(Oh ki x H' es' ls' (IS rfl h q.1) q.2)
def TM{p:Nat->Prop}(h0:p 0)(h1:p 1)(h2:p 2)(h3:p 3)(h4:p 4)(h5:p 5)(h6:p 6)(h7:p 7)(i:Nat)(hi:i<8):p i:=by
 rcases i with _ | _ | _ | _ | _ | _ | _ | _ | i
 ·exact h0
 ·exact h1
 ·exact h2
 ·exact h3
 ·exact h4
 ·exact h5
 ·exact h6
 ·exact h7
 ·exact absurd hi (iA.mpr (eF 8 i))
def NI(W:LW H dk sc tb rw dc τ es)(hτ:τ<=90000):∀i<8,oY d H dk sc tb rw dc τ es (Fg.body.drop 1) i:=
 TM (NR W hτ).hit (.skip (by decide) (NQ W hτ).hit) (.skip (by decide) (.skip (by decide) (NP W hτ).hit)) (.skip (by decide) (.skip (by decide) (.skip (by decide) (NO W hτ).hit))) (.skip (by decide) (.skip (by decide) (.skip (by decide) (.skip (by decide) (NN W hτ).hit))))
  (.skip (by decide) (.skip (by decide) (.skip (by decide) (.skip (by decide) (.skip (by decide) (NM W hτ).hit))))) (.skip (by decide) (.skip (by decide) (.skip (by decide) (.skip (by decide) (.skip (by decide) (.skip (by decide) (NL W hτ).hit))))))
  (.skip (by decide) (.skip (by decide) (.skip (by decide) (.skip (by decide) (.skip (by decide) (.skip (by decide) (.skip (by decide) (NJ W))))))))
def L9(W:LW H dk sc tb rw dc τ es)(hτ:τ<=80000):∃ki x H' es',aQ (d+4) H 127 [.ref dk, .ref tb] (.ref ki,H')/\Made H H' dk sc tb rw dc (τ+7) es es' ki x/\x.atom=true:=by
 refine fy (W.d122 (d:=d+2) (n:=8) (by decide) (by exact(cA ai (aI 100000) [(ai,aI 80000)] aS hτ))) λi au hi e W1 K=>?_;refine Qc (NI (d:=d) W1 (by exact(cA bh (aI 90000) [(ai,aI 80000)] aS hτ)) i hi) λki x H' es' ls' h M ha=>?_;refine dt (M.it) λv hv hk r=>?_;exact yi ki x H' es' (bz (F:=Fg) rfl rfl rfl (cL (bj (bW rfl (gS aq)) e) rfl h)) (⟨M.W.le (by exact(cA (aK bh (aI 6)) (aK ai (aI 7)) [] aS)),M.sb,(eH v hv (aj K.len hk) (r.move (ok:=all) .refl iD.lt .refl K.len)),M.g,(uu K).trans M.K⟩) ha
end
end
mutual
def Nj:(names.all λs=>decide (1<=s.length) && decide (s.length<=12))=true:=by decide+kernel
def Kj:(m5.all λr=>decide (1<=(fQ r.1 r.2).length) && decide ((fQ r.1 r.2).length<=12))=true:=by decide+kernel
def mD{c:Nat}:1<=(g9 c).length/\(g9 c).length<=12:=by
 unfold g9;rcases Decidable.em (c=32)with h | h
 ·erw [if_pos h];exact⟨by decide,by decide⟩
 ·erw [if_neg h]
  rcases Decidable.em (c=10)with h2 | h2
  ·erw [if_pos h2];exact⟨by decide,by decide⟩
  ·erw [if_neg h2];exact⟨ab rfl,ab rfl⟩
def ye{i:Int}(h:i.natAbs<=1000):1<=(dH i).length:=by
 refine gz ((zS h).hd) λc w e zz=>?_
 erw [e];exact dB (aY _)
def tT:∀(x:D),x.good->x.atom=true->1<=(tx true x).length/\(tx true x).length<=12/\(tx false x).length<=(tx true x).length
 | .bool b,_,_=>(eD (ab rfl) (ab rfl) (ay _))
 | .int i,g,_=>by
  have h:i.natAbs<=1000:=by have:-1000<=i/\i<1000:=g;exact(pL (eC [_] [] 0 (.ik 0) (.ip (.iv 0) (.ic (aI 1000))) (.hz (.ik (-1000)) (.iv 0) .ho) (by kernel_rfl) this.1) (eC [_] [] 0 (.iv 0) (.ic (aI 1000)) (.hz (.ip (.iv 0) (.ik 1)) (.ik 1000) .ho) (by kernel_rfl) this.2))
  exact eD (ye h) (aj (iY h) (by decide)) (ay _)
 | .empty,_,_=>⟨by decide,by decide,ay _⟩
 | .ratio p q,g,_=>by
  have g:2<=q/\q<10/\∃k:Int,-10<=k/\k<10/\p=q*k+1:=g;refine Gp (pD g.1 g.2.1 g.2.2) λn xq1 h1 h2 h3 h4=>?_;subst xq1;have l1:=iY h3;have l2:=(jO h2).2.2.1;rw[show(tx true (.ratio p n)).length=(dH p).length+(1+(bR n).length)from by erw [sf,ag,aJ];rewrite [dq 1];rfl];refine eD (by exact(bF (aI 1) (aK ai (aK (aI 1) az)) [] aS)) (by exact(bF (aK ai (aK (aI 1) az)) (aI 12) [(az,aI 4),(ai,aI 5)] aS l2 l1)) ?_;rw[show(tx false (.ratio p n)).length=(dH p).length+(1+(bR n).length)from(by
   show(dH p++ [47]++bR n).length=_
   erw [ag,ag];show _+1+_=_;exact f9 ..)];exact ay _
 | .real m e,g,_=>by
  have h:=ae.mp (aT.mp Kj (m,e) g);exact eD (of_decide_eq_true h.1) (of_decide_eq_true h.2) (ay _)
 | .sym s,g,_=>by
  have h:=ae.mp (aT.mp Nj s g);exact eD (of_decide_eq_true h.1) (of_decide_eq_true h.2) (ay _)
 | .char c,_,_=>(eD mD.1 mD.2 mD.1)
 | .text cs,g,_=>by
  have h:=jR cs;have h2:cs.length<=(cB cs).length:=esc_ge cs;have g1:cs.length<=4:=g.1
  erw [(show(tx true (.text cs)).length=1+(cB cs).length+1 from by show([34]++cB cs++ [34]).length=_;erw [ag,ag];rfl),(show(tx false (.text cs)).length=cs.length from rfl)]
  exact eD (by exact(cA (aI 1) (eT (aK (aI 1) ai)) [] aS)) (by exact(bF (eT (aK (aI 1) ai)) (aI 12) [(ai,f6 2 az),(az,aI 4),(az,aI 4)] aS h g1 g1)) (by exact(bF ai (eT (aK (aI 1) az)) [(ai,az)] aS h2))
where esc_ge:∀cs:List Nat,cs.length<=(cB cs).length
 | []=>ay _
 | c::r=>by
  have ih:=esc_ge r;unfold cB;rcases Decidable.em (c=34\/c=92)with h | h
  ·erw [if_pos h];show r.length+1<=_+1+1;exact(bF bh (eT cO) [(ai,az)] aS ih)
  ·erw [if_neg h];exact dB ih
def vw(w:Bool):∀(x:D),(x= .empty/\(tl w x).length=1)\/((∃a b,x= .pair a b)/\(tl w x).length=(tx w x).length)\/(x.end_=true/\(tl w x).length=(tx w x).length+4)
 | .empty=> .inl ⟨rfl,rfl⟩
 | .pair a b=> .inr (.inl ⟨⟨a,b,rfl⟩,by show([32]++(Dh w a).1++(Dh w b).2).length=([40]++(Dh w a).1++(Dh w b).2).length;rewrite [ag];erw [ag,ag,ag];rfl⟩)
 | .bool _=> .inr (.inr ⟨rfl,dot_len _⟩)
 | .int _=> .inr (.inr ⟨rfl,dot_len _⟩)
 | .ratio _ _=> .inr (.inr ⟨rfl,dot_len _⟩)
 | .real _ _=> .inr (.inr ⟨rfl,dot_len _⟩)
 | .sym _=> .inr (.inr ⟨rfl,dot_len _⟩)
 | .char _=> .inr (.inr ⟨rfl,dot_len _⟩)
 | .text _=> .inr (.inr ⟨rfl,dot_len _⟩)
 | .vec _ _=> .inr (.inr ⟨rfl,dot_len _⟩)
where dot_len (t:List Nat):([32,46,32]++t++ [41]).length=t.length+4:=by erw [ag,ag];show 3+t.length+1=_;exact(bJ (cA (eT (aK (aI 3) ai)) (aK ai (aI 4)) [] aS) (cA (aK ai (aI 4)) (eT (aK (aI 3) ai)) [] aS))
def mW{w:Bool}{a b:D}:(tx w (.pair a b)).length=1+(tx w a).length+(tl w b).length:=by
 show([40]++tx w a++tl w b).length=_
 erw [ag,ag];rfl
def oA{w:Bool}{a b:D}:(tx w (.vec a b)).length=4+(tx w a).length+(tx w b).length:=by
 show([35,40]++tx w a++ [32]++tx w b++ [41]).length=_
 erw [ag,ag,ag,ag]
 show 2+_+1+_+1=_;exact(bJ (bF (eT (aK (eT (aK (aI 2) ai)) az)) (aK (aK (aI 4) ai) az) [] aS) (bF (aK (aK (aI 4) ai) az) (eT (aK (eT (aK (aI 2) ai)) az)) [] aS))
def z5(x:D)(g:x.good):1<=(tx true x).length/\(tx false x).length<=(tx true x).length/\sz x+1<=3*(tx true x).length:=by
 have at_:∀(x:D),x.good->x.atom=true->sz x=1->1<=(tx true x).length/\(tx false x).length<=(tx true x).length/\sz x+1<=3*(tx true x).length:=λx g h hz=>by
  have:=tT x g h
  erw [hz]
  exact eD this.1 this.2.2 (by exact(cA (eT (aI 1)) (f6 3 ai) [(aI 1,ai),(aI 1,ai)] aS this.1 this.1))
 induction x with
 | bool zz=>exact at_ _ g rfl rfl
 | int zz=>exact at_ _ g rfl rfl
 | empty=>exact at_ _ g rfl rfl
 | ratio zz zy=>exact at_ _ g rfl rfl
 | real zz zy=>exact at_ _ g rfl rfl
 | sym zz=>exact at_ _ g rfl rfl
 | char zz=>exact at_ _ g rfl rfl
 | text zz=>exact at_ _ g rfl rfl
 | vec a b ia ib=>
  have ia:=ia g.1;have ib:=ib g.2
  erw [oA,oA,(show sz (D.vec a b)=4+sz a+sz b from rfl)]
  exact⟨(bF (aI 1) (aK (aK (aI 4) ai) az) [] aS),⟨(gV (aK (aK (aI 4) ai) az) (aK (aK (aI 4) bH) cQ) [(az,cQ),(ai,bH)] aS ib.2.1 ia.2.1),(gV (eT (aK (aK (aI 4) ai) az)) (f6 3 (aK (aK (aI 4) bH) cQ)) [(cO,f6 3 cQ),(bh,f6 3 bH)] aS ib.2.2 ia.2.2)⟩⟩
 | pair a b ia ib=>
  have ia:=ia g.1;have ib:=ib g.2
  erw [mW,mW,(show sz (D.pair a b)=3+sz a+sz b from rfl)]
  have h1:(tl false b).length<=(tl true b).length/\sz b<=3*(tl true b).length:=by
   rcases vw true b with⟨e,h⟩ | ⟨⟨c,c',e⟩,h⟩ | ⟨e,h⟩
   ·subst e;exact⟨ay _,by show 1<=3*1;decide⟩
   ·rcases vw false b with⟨e',_⟩ | ⟨_,h'⟩ | ⟨e',_⟩
    ·rw[e']at e;exact nomatch e
    ·exact⟨(gV ai az [(ai,bH),(bH,cQ),(cQ,az)] aS (pK h') ib.2.1 (lz h)),(gn ai (f6 3 az) [(bh,f6 3 bH),(bH,az),(bH,az),(bH,az)] aS ib.2.2 (lz h) (lz h) (lz h))⟩
    ·rw[e]at e';exact nomatch e'
   ·rcases vw false b with⟨e',_⟩ | ⟨⟨_,_,e'⟩,_⟩ | ⟨_,h'⟩
    ·rw[e']at e;exact nomatch e
    ·rw[e']at e;exact nomatch e
    ·exact⟨(gV ai az [(ai,aK bH (aI 4)),(bH,cQ),(aK cQ (aI 4),az)] aS (pK h') ib.2.1 (lz h)),(gn ai (f6 3 az) [(bh,f6 3 bH),(aK bH (aI 4),az),(aK bH (aI 4),az),(aK bH (aI 4),az)] aS ib.2.2 (lz h) (lz h) (lz h))⟩
  exact⟨(bF (aI 1) (aK (aK (aI 1) ai) az) [] aS),⟨(gV (aK (aK (aI 1) ai) az) (aK (aK (aI 1) bH) cQ) [(az,cQ),(ai,bH)] aS h1.1 ia.2.1),(gV (eT (aK (aK (aI 3) ai) az)) (f6 3 (aK (aK (aI 1) bH) cQ)) [(az,f6 3 cQ),(bh,f6 3 bH)] aS h1.2 ia.2.2)⟩⟩
noncomputable abbrev ui(v:AV)(x:D):Cell:= .list [v, .str (tx true x), .str (tx false x)]
noncomputable abbrev Qu:List S:= [(.ite (.j .is (.idx (.v 1) (.lit (.int 0))) (.lit (.obj 0))) [(.expr (.meth (.v 2) 0 [(.o .add (.o .add (.lit (.str [40])) (.idx (.v 0) (.v 3))) (.lit (.str [41])))]))] [(.ite (.h (.idx (.v 1) (.lit (.int 0))) (.cls 3)) [(.expr (.meth (.v 2) 0 [(.o .add (.o .add (.o .add (.lit (.str [40])) (.idx (.v 0) (.v 3))) (.lit (.str [32]))) (.slice (.idx (.v 1) (.v 3)) (some (.lit (.int 1))) none))]))] [(.expr (.meth (.v 2) 0 [(.o .add (.o .add (.o .add (.o .add (.lit (.str [40])) (.idx (.v 0) (.v 3))) (.lit (.str [32,46,32]))) (.idx (.v 1) (.v 3))) (.lit (.str [41])))]))])])]
def LA{ok:Nat->Prop}{H:Hp}{v:AV}:∀(x:D),gJ ok H v x->(x= .empty/\Dl v (.obj 0)=some true)\/(x≠ .empty/\Dl v (.obj 0)=some false)
 | .empty,h=> .inl ⟨rfl,by cases (h:v=_);rfl⟩
 | .bool _,h=> .inr ⟨nofun,by cases (h:v=_);rfl⟩
 | .int _,h=> .inr ⟨nofun,by cases (h:v=_);rfl⟩
 | .ratio _ _,h=> .inr ⟨nofun,by refine aM h λzz xq1 zy=>?_;subst xq1;rfl⟩
 | .real _ _,h=> .inr ⟨nofun,by refine aM h λzz xq2 zy=>?_;subst xq2;rfl⟩
 | .sym _,h=> .inr ⟨nofun,by refine gz h λzz zy xq3 zx=>?_;subst xq3;rfl⟩
 | .char _,h=> .inr ⟨nofun,by refine aM h λzz xq4 zy=>?_;subst xq4;rfl⟩
 | .text _,h=> .inr ⟨nofun,by refine gz h λzz zy xq5 zx=>?_;subst xq5;rfl⟩
 | .vec _ _,h=> .inr ⟨nofun,by refine Nf h λzz zy zx zw xq6 zv=>?_;subst xq6;rfl⟩
 | .pair _ _,h=> .inr ⟨nofun,by refine vq h λzz zy zx xq7 zw=>?_;subst xq7;rfl⟩
def HK{ok:Nat->Prop}{H:Hp}{v:AV}(x:D)(h:gJ ok H v x):((∃a b,x= .pair a b)/\kx P H (.cls 3) v=some true)\/(x.end_=true\/x= .empty)/\kx P H (.cls 3) v=some false:=by
 cases x using D.casesOn with
 | pair a b=>refine gT h λk zz zy xq8 zx q zw=>?_;subst xq8;exact .inl ⟨⟨a,b,rfl⟩,bZ q⟩
 | vec a b=>refine w5 h λk zz zy zx xq9 zw q zv=>?_;subst xq9;exact .inr ⟨.inl rfl,bZ q⟩
 | empty=>exact .inr ⟨.inr rfl,(iG _ rfl h).1⟩
 | bool zz=>exact .inr ⟨.inl rfl,(iG _ rfl h).1⟩
 | int zz=>exact .inr ⟨.inl rfl,(iG _ rfl h).1⟩
 | ratio zz zy=>exact .inr ⟨.inl rfl,(iG _ rfl h).1⟩
 | real zz zy=>exact .inr ⟨.inl rfl,(iG _ rfl h).1⟩
 | sym zz=>exact .inr ⟨.inl rfl,(iG _ rfl h).1⟩
 | char zz=>exact .inr ⟨.inl rfl,(iG _ rfl h).1⟩
 | text zz=>exact .inr ⟨.inl rfl,(iG _ rfl h).1⟩
def Kr{w:Bool}:∀{x:D},x.end_=true->tl w x= [32,46,32]++tx w x++ [41]
 | .bool _,_=>rfl
 | .int _,_=>rfl
 | .ratio _ _,_=>rfl
 | .real _ _,_=>rfl
 | .sym _,_=>rfl
 | .char _,_=>rfl
 | .text _,_=>rfl
 | .vec _ _,_=>rfl
end
section
mutual
variable{d n:Nat}{H au H':Hp}{k1 k2 kl j:Nat}{v1 v2:AV}{a b:D}{w:Bool}{ok:Nat->Prop}{us:List AV}
def pM{k:Nat}{v:AV}{x:D}(h:Hk H k (ui v x))(hj:j=cond w 1 2):rN H (.ref k) (.int (j:Nat))=some (.str (tx w x)):=fi h fO (by erw [hj];induction w using aG <;> rfl)
def Bh(h1:Hk H k1 (ui v1 a))(h2:Hk H k2 (ui v2 b))(hl:Hk H kl (.list us))(hj:j=cond w 1 2)(r:gJ ok H v2 b)(la:(tx w a).length<=1000)(lb:(tx w b).length<=1000)(hu:us.length<=1000):gI d [some (.ref k1),some (.ref k2),some (.ref kl),some (.int (j:Nat)),none,none] H Qu (.next,[some (.ref k1),some (.ref k2),some (.ref kl),some (.int (j:Nat)),none,none],H.set kl (.list (us++ [.str (tx w (.pair a b))]))):=by
 have i0:Re d [some (.ref k1),some (.ref k2),some (.ref kl),some (.int (j:Nat)),none,none] H (.idx (.v 1) (.lit (.int 0))) (v2,H):=dD (ah rfl) aA (fi (i:=0) h2 fO rfl);have i1:Re d [some (.ref k1),some (.ref k2),some (.ref kl),some (.int (j:Nat)),none,none] H (.idx (.v 0) (.v 3)) (.str (tx w a),H):=dD (ah rfl) (ah rfl) (pM h1 hj);have i2:Re d [some (.ref k1),some (.ref k2),some (.ref kl),some (.int (j:Nat)),none,none] H (.idx (.v 1) (.v 3)) (.str (tx w b),H):=dD (ah rfl) (ah rfl) (pM h2 hj);have b1:nY .add (.str [40]) (.str (tx w a)) H=some (.str ([40]++tx w a),H):=d9 (by show 1+_<=_;exact(cA (aK (aI 1) ai) cY [(ai,aI 1000)] aS la));have l1:([40]++tx w a).length=1+(tx w a).length:=ag;have push:∀{x:E} {s:List Nat},Re d [some (.ref k1),some (.ref k2),some (.ref kl),some (.int (j:Nat)),none,none] H x (.str s,H)->s=tx w (.pair a b)->gI d [some (.ref k1),some (.ref k2),some (.ref kl),some (.int (j:Nat)),none,none] H [.expr (.meth (.v 2) 0 [x])] (.next,[some (.ref k1),some (.ref k2),some (.ref kl),some (.int (j:Nat)),none,none],H.set kl (.list (us++ [.str (tx w (.pair a b))]))):=λh e=>e ▸ux (ft (ah rfl) hl h hl (aN (by exact(cA ai cY [(ai,aI 1000)] aS hu)))) bb;rcases LA b r with⟨rfl,he⟩ | ⟨hne,he⟩
 ·exact aC (ff (gO i0 aA he) (push (bT (bT aA i1 b1) aA (d9 (by erw [l1];show _+1<=_;exact(cA (eT (aK (aI 1) ai)) cY [(ai,aI 1000)] aS la)))) rfl)) bb
 ·rcases HK b r with⟨⟨c,c',rfl⟩,hp⟩ | ⟨hq,hp⟩
  ·refine aC (cV (gO i0 aA he) (aC (ff (gF rfl (iZ i0 hp)) (push (bT (bT (bT aA i1 b1) aA (d9 (by erw [l1];show _+1<=_;exact(cA (eT (aK (aI 1) ai)) cY [(ai,aI 1000)] aS la)))) (oU i2 aA (oH (i:=1) (by exact aj lb (ab rfl)))) (d9 ?_)) ?_)) bb)) bb
   ·erw [ag,l1,d7];show _+1+_<=_;exact(gn (aK (eT (aK (aI 1) ai)) az) cY [(az,bH),(bH,aI 1000),(ai,aI 1000)] aS (wK _ _) lb la)
   ·show [40]++tx w a++ [32]++(tx w (.pair c c')).drop 1= [40]++tx w a++([32]++tx w c++tl w c')
    erw [aB];rewrite [aB];erw [aB,aB];rfl
  ·refine aC (cV (gO i0 aA he) (aC (cV (gF rfl (iZ i0 hp)) (push (bT (bT (bT (bT aA i1 b1) aA (d9 (by erw [l1];show _+3<=_;exact(cA (aK (aK (aI 1) ai) (aI 3)) cY [(ai,aI 1000)] aS la)))) i2 (d9 ?_)) aA (d9 ?_)) ?_)) bb)) bb
   ·erw [ag,l1];show _+3+_<=_;exact(bF (aK (aK (aK (aI 1) ai) (aI 3)) az) cY [(az,aI 1000),(ai,aI 1000)] aS lb la)
   ·erw [ag,ag,l1];show _+3+_+1<=_;exact(bF (eT (aK (aK (aK (aI 1) ai) (aI 3)) az)) cY [(az,aI 1000),(ai,aI 1000)] aS lb la)
   ·show [40]++tx w a++ [32,46,32]++tx w b++ [41]= [40]++tx w a++tl w b
    erw [Kr (hq.resolve_right hne),aB,aB];rewrite [aB];erw [aB,aB];rfl
def RB(h1:Hk H k1 (ui v1 a))(h2:Hk H k2 (ui v2 b))(r:gJ ok H v2 b)(la:∀w,(tx w a).length<=1000)(lb:∀w,(tx w b).length<=1000):∃kp ki H',aQ (d+2) H 128 [.ref k1, .ref k2] (.ref ki,H')/\Hk H' ki (ui (.ref kp) (.pair a b))/\Hk H' kp (.n 3 [(16,v1),(17,v2)])/\H.length<=kp/\H.length<=ki/\Keep all H H':=by
 have K0:Keep all H (H++ [Cell.n 3 [(16,v1),(17,v2)]]):=Keep.app;have l0:(H++ [Cell.n 3 [(16,v1),(17,v2)]]).length=H.length+1:=ag;have g0:=aV (H:=H++ [Cell.n 3 [(16,v1),(17,v2)]]) (c:= .list [.ref H.length]);have Ka:Keep (· <(H++ [Cell.n 3 [(16,v1),(17,v2)]]).length) (H++ [Cell.n 3 [(16,v1),(17,v2)]]) (H++ [Cell.n 3 [(16,v1),(17,v2)]]++ [Cell.list [AV.ref H.length]]):=Keep.app;have Kb:Keep (· <(H++ [Cell.n 3 [(16,v1),(17,v2)]]).length) (H++ [Cell.n 3 [(16,v1),(17,v2)]]) ((H++ [Cell.n 3 [(16,v1),(17,v2)]]++ [Cell.list [AV.ref H.length]]).set (H++ [Cell.n 3 [(16,v1),(17,v2)]]).length (Cell.list ([AV.ref H.length]++ [AV.str (tx true (.pair a b))]))):=Ka.trans (Keep.set λo=>jU _ o);have gb:=cP (c:= .list ([.ref H.length]++ [.str (tx true (.pair a b))])) (bx g0);have Kc:=Kb.trans (Keep.set (k:=(H++ [Cell.n 3 [(16,v1),(17,v2)]]).length) (c:= .list ([.ref H.length]++ [.str (tx true (.pair a b))]++ [.str (tx false (.pair a b))])) λo=>jU _ o);have ra:=(r.mono (ok':=(· <(H++ [Cell.n 3 [(16,v1),(17,v2)]]).length)) (H':=H++ [Cell.n 3 [(16,v1),(17,v2)]]) (λk c o e=>⟨gK (bx e) (by exact(bF bh az [(bh,az)] aS (lz l0))),K0.at_ k c trivial e⟩) b);have p1:R.ss (d+1) [some (.ref k1),some (.ref k2),some (.ref (H++ [Cell.n 3 [(16,v1),(17,v2)]]).length),some (.int ((1:Nat):Int)),none,none] _ Qu=_:=Bh (d:=d+1) (w:=true) (j:=1) (Ka.at_ _ _ (by have:=bx h1;exact(gn bh az [(bh,bH),(mc,az)] aS this (lz l0))) (K0.at_ _ _ trivial h1)) (Ka.at_ _ _ (by have:=bx h2;exact(gn bh az [(bh,bH),(mc,az)] aS this (lz l0))) (K0.at_ _ _ trivial h2)) g0 rfl (ra.keep Ka) (la true) (lb true) (ab rfl);have p2:R.ss (d+1) [some (.ref k1),some (.ref k2),some (.ref (H++ [Cell.n 3 [(16,v1),(17,v2)]]).length),some (.int ((2:Nat):Int)),none,none] _ Qu=_:=Bh (d:=d+1) (w:=false) (j:=2) (Kb.at_ _ _ (by have:=bx h1;exact(gn bh az [(bh,bH),(mc,az)] aS this (lz l0))) (K0.at_ _ _ trivial h1)) (Kb.at_ _ _ (by have:=bx h2;exact(gn bh az [(bh,bH),(mc,az)] aS this (lz l0))) (K0.at_ _ _ trivial h2)) gb rfl (ra.keep Kb) (la false) (lb false) (ab rfl);exact LD H.length _ _ (bz (F:=OJ) rfl rfl rfl (cL (fK (ak (gH (ak (dD (ah rfl) aA (fi (i:=0) h1 fO rfl)) (ak (dD (ah rfl) aA (fi (i:=0) h2 fO rfl)) aq)) rfl Tt) aq) (aN (ab rfl))) rfl (aC (mN (gR (gS (gS aq)) (aN (ab rfl))) rfl (fq rfl rfl p1 (fq rfl rfl p2 (iH rfl)))) (fx (ah rfl))))) (cP (bx gb)) (Kc.at_ _ _ (by show H.length<_;exact(bF bh az [(bh,az)] aS (lz l0))) aV) (ay _) (by exact(bF ai az [(bh,az)] aS (lz l0))) ((K0.trans (Kc.below λi h zz=>h)))
end
end
mutual
abbrev Pn(n kp:Nat)(H:Hp)(es:List (List Nat×AV))(k:Nat):Prop:=Nw n H es k/\k≠kp
structure PIt(n kp:Nat)(H:Hp)(es:List (List Nat×AV))(t ki:Nat)(x:D):Prop where
 it:∃v,Hk H ki (ui v x)/\gJ (Pn n kp H es) H v x
 ne:ki≠kp
 lo:n<=ki
 g:x.good
 len:(tx true x).length<=49
 dp:dp x<=2*t
abbrev y3(n kp:Nat)(H:Hp)(ok:Nat->Prop):Prop:= ∀k c,Hk H k c->n<=k\/qR c=true->k≠kp->ok k
end
section
mutual
variable{k1 k2 t1 t2:Nat}
variable{d n kp t:Nat}{H au H':Hp}{dk sc tb rw dc τ k ki i:Nat}{es es':List (List Nat×AV)}{v:AV}{x:D}{ls:Ls}{ok:Nat->Prop}{ws:List AV}
def iD.p(h:iD n H ok):y3 n kp H ok:=λk c e o zz=>h k c e o
def mZ(r:gJ (Pn n kp H es) H v x)(K:Keep ok H H')(h:y3 n kp H ok)(s:Sub es es'):gJ (Pn n kp H' es') H' v x:=by
 refine r.mono (λk c o e=>?_) x v;have e':=K.at_ k c (h k c e (o.1.1 c e) o.2) e;exact⟨⟨⟨λc' g=>by cases e'.symm.trans g;exact o.1.1 c e,λi s' g=>by cases e'.symm.trans g;exact s _ _ (o.1.2 i s' e)⟩,o.2⟩,e'⟩
def PIt.move(p:PIt n kp H es t ki x)(K:Keep ok H H')(h:y3 n kp H ok)(s:Sub es es'):PIt n kp H' es' t ki x:=by
 refine aM (p.it) λv hv r=>?_;exact⟨⟨v,K.at_ _ _ (h ki _ hv (.inl p.lo) p.ne) hv,mZ r K h s⟩,p.ne,p.lo,p.g,p.len,p.dp⟩
def PIt.le{t':Nat}(p:PIt n kp H es t ki x)(h:t<=t'):PIt n kp H es t' ki x:=⟨p.it,p.ne,p.lo,p.g,p.len,aj p.dp (Nat.mul_le_mul_left 2 h)⟩
def NC{m:Nat}(r:gJ (Nw m H es) H v x)(hm:n<=m)(hk:kp<m)(hp:Hk H kp (.list ws)):gJ (Pn n kp H es) H v x:=
 r.mono (λk c o e=>⟨⟨⟨λc' g=>(o.1 c' g).imp (aj hm) id,o.2⟩,λq=>by
  subst q;cases hp.symm.trans e
  cases o.1 _ hp with
  | inl h=>exact absurd hk (Nat.not_lt_of_le h)
  | inr h=>exact nomatch h⟩,e⟩) x v
def LW.has(W:LW H dk sc tb rw dc τ es)(h1:dk<n)(h2:rw<n)(h3:dc<n):iD n H (Hl dk rw dc):=by
 obtain⟨xq1,_⟩:=W.hD.cells;refine ub xq1 λa b c h=>?_;refine aM (W.hT.hr) λrs hr zz=>?_;exact λk c e o=>(eD (iD.ne h h1 rfl k c e o) (iD.ne hr h2 rfl k c e o) (iD.ne W.hT.hd h3 rfl k c e o))
def BJ:∀(x:D),x.atom=true->dp x=0
 | .bool _,_=>rfl
 | .int _,_=>rfl
 | .empty,_=>rfl
 | .ratio _ _,_=>rfl
 | .real _ _,_=>rfl
 | .sym _,_=>rfl
 | .char _,_=>rfl
 | .text _,_=>rfl
def Made.item(M:Made H H' dk sc tb rw dc τ es es' ki x)(ha:x.atom=true)(hn:n<=H.length)(hk:kp<H.length)(hp:Hk H' kp (.list ws)):PIt n kp H' es' t ki x:=by
 refine dt (M.it) λv hv hki r=>?_;exact⟨⟨v,hv,NC r hn hk hp⟩,Ne.symm (aE (ao hk hki)),aj hn hki,M.g,aj (tT x M.g ha).2.1 (by decide),by erw [BJ x ha];exact aY _⟩
structure LBase(n kp dk sc rw dc:Nat):Prop where
 dk:dk<n
 sc:sc<n
 rw:rw<n
 dc:dc<n
 kp:n<=kp
def LBase.okp(b:LBase n kp dk sc rw dc):Hl dk rw dc kp:=(eD (Ne.symm (aE (ao b.dk b.kp))) (Ne.symm (aE (ao b.rw b.kp))) (Ne.symm (aE (ao b.dc b.kp))))
def qE{a b:D}(B:LBase n kp dk sc rw dc)(p1:PIt n kp H es t1 k1 a)(p2:PIt n kp H es t2 k2 b)(hk:kp<H.length)(hn:n<=H.length)(hl:1+(tx true a).length+(tl true b).length<=49)(hd:1+max (Mine.Internal.dp a) (Mine.Internal.dp b)<=2*t):∃ki H',aQ (d+2) H 128 [.ref k1, .ref k2] (.ref ki,H')/\PIt n kp H' es t ki (.pair a b)/\Keep all H H':=by
 refine aM (p1.it) λv1 h1 r1=>?_;refine aM (p2.it) λv2 h2 r2=>?_;have la:=z5 a p1.g;have lb:=z5 b p2.g;have l1:=p1.len;have l2:=p2.len;refine Gn (RB (d:=d) h1 h2 r2 (λw=>by induction w using aG <;> (first | lia | omega)) (λw=>by induction w using aG <;> (first | lia | omega))) λkq ki H' e hi hq nq ni K=>?_;have hh:y3 n kp H all:=λzz zy zx zw zv=>trivial;exact i7 ki H' e (⟨⟨.ref kq,hi,(iR kq v1 v2 rfl (⟨jY hq rfl (λzz zy h=>nomatch h),Ne.symm (aE (ao hk nq))⟩) hq (mZ r1 K hh .refl) (mZ r2 K hh .refl))⟩,Ne.symm (aE (ao hk ni)),aj hn ni,⟨p1.g,p2.g⟩,by erw [mW];exact hl,hd⟩) K
def w9{w:Bool}{a b:D}{ls:Ls}{x y:E}(hx:Re d ls H x (.str (tx w a),H))(hy:Re d ls H y (.str (tx w b),H))(la:(tx w a).length<=1000)(lb:(tx w b).length<=1000):Re d ls H (.o .add (.o .add (.o .add (.o .add (.lit (.str [35,40])) x) (.lit (.str [32]))) y) (.lit (.str [41]))) (.str (tx w (.vec a b)),H):=
 bT (bT (bT (bT aA hx (d9 (by show 2+_<=_;exact(cA (aK (aI 2) ai) cY [(ai,aI 1000)] aS la)))) aA (d9 (by erw [ag];show 2+_+1<=_;exact(cA (eT (aK (aI 2) ai)) cY [(ai,aI 1000)] aS la)))) hy (d9 (by erw [ag,ag];show 2+_+1+_<=_;exact(bF (aK (eT (aK (aI 2) ai)) az) cY [(az,aI 1000),(ai,aI 1000)] aS lb la)))) aA (d9 (by erw [ag,ag,ag];show 2+_+1+_+1<=_;exact(bF (eT (aK (eT (aK (aI 2) ai)) az)) cY [(az,aI 1000),(ai,aI 1000)] aS lb la)))
noncomputable abbrev MW(dk kp tb i k1 k2:Nat):Ls:= [some (.ref dk),some (.ref kp),some (.ref tb),some (.int (i:Nat)),some (.ref k1),some (.ref k2),none,none]
def Du{i:Nat}{a b:D}(p1:PIt n kp H es t1 k1 a)(p2:PIt n kp H es t2 k2 b)(hk:kp<H.length)(hn:n<=H.length)(hl:4+(tx true a).length+(tx true b).length<=49)(hd:1+max (Mine.Internal.dp a) (Mine.Internal.dp b)<=2*t):∃ki H',Re (d+1) (MW dk kp tb i k1 k2) H (.list [(.new 6 [(.list [(.idx (.v 4) (.lit (.int 0))),(.idx (.v 5) (.lit (.int 0)))])]),(.o .add (.o .add (.o .add (.o .add (.lit (.str [35,40])) (.idx (.v 4) (.lit (.int 1)))) (.lit (.str [32]))) (.idx (.v 5) (.lit (.int 1)))) (.lit (.str [41]))),(.o .add (.o .add (.o .add (.o .add (.lit (.str [35,40])) (.idx (.v 4) (.lit (.int 2)))) (.lit (.str [32]))) (.idx (.v 5) (.lit (.int 2)))) (.lit (.str [41])))]) (.ref ki,H')/\PIt n kp H' es t ki (.vec a b)/\Keep all H H':=by
 refine aM (p1.it) λv1 h1 r1=>?_;refine aM (p2.it) λv2 h2 r2=>?_;have la:=z5 a p1.g;have lb:=z5 b p2.g;have l1:=p1.len;have l2:=p2.len;have K0:Keep all H (H++ [.list [v1,v2]]++ [.n 6 [(20, .ref H.length)]]):=Keep.app.trans Keep.app;have g1:=K0.at_ _ _ trivial h1;have g2:=K0.at_ _ _ trivial h2;have K:Keep all H (H++ [.list [v1,v2]]++ [.n 6 [(20, .ref H.length)]]++ [ui (.ref (H++ [Cell.list [v1,v2]]).length) (.vec a b)]):=K0.trans Keep.app;have hh:y3 n kp H all:=λzz zy zx zw zv=>trivial;have gv:Hk (H++ [Cell.list [v1,v2]]++ [Cell.n 6 [(20,AV.ref H.length)]]++ [ui (AV.ref (H++ [Cell.list [v1,v2]]).length) (.vec a b)]) ((H++ [Cell.list [v1,v2]]).length) (.n 6 [(20, .ref H.length)]):=bD aV;have gl:Hk (H++ [Cell.list [v1,v2]]++ [Cell.n 6 [(20,AV.ref H.length)]]++ [ui (AV.ref (H++ [Cell.list [v1,v2]]).length) (.vec a b)]) (H.length) (.list [v1,v2]):=bD (bD aV);have e3:=hZ (d:=d+1) (ls:=MW dk kp tb i k1 k2) (H:=H) (gH (i:=6) (ak (fK (as:= [(.idx (.v 4) (.lit (.int 0))),(.idx (.v 5) (.lit (.int 0)))]) (ak (dD (ah rfl) aA (fi (i:=0) h1 fO rfl)) (ak (dD (ah rfl) aA (fi (i:=0) h2 fO rfl)) aq)) (aN (ab rfl))) aq) rfl Tq) (w9 (w:=true) (x:= .idx (.v 4) (.lit (.int 1))) (y:= .idx (.v 5) (.lit (.int 1))) (dD (ah rfl) aA (pM (j:=1) g1 rfl)) (dD (ah rfl) aA (pM (j:=1) g2 rfl)) (by exact(cA ai (aI 1000) [(ai,aI 49)] aS l1)) (by exact(bF ai (aI 1000) [((aK (aK (aI 4) az) ai),aI 49)] aS hl))) (w9 (w:=false) (x:= .idx (.v 4) (.lit (.int 2))) (y:= .idx (.v 5) (.lit (.int 2))) (dD (ah rfl) aA (pM (j:=2) g1 rfl)) (dD (ah rfl) aA (pM (j:=2) g2 rfl)) (by exact(bF ai (aI 1000) [(ai,az),(az,aI 49)] aS la.2.1 l1)) (by exact(gn ai (aI 1000) [(ai,az),((aK (aK (aI 4) bH) az),aI 49)] aS lb.2.1 hl)));have ls:H.length<=(H++ [Cell.list [v1,v2]]).length:=(Keep.app (ok:=all)).len;have n1:kp≠(H++ [Cell.list [v1,v2]]).length:=aE (ao hk ls);exact i7 _ _ e3 (⟨⟨_,aV,(HQ _ H.length v1 v2 rfl (⟨jY gv rfl (λzz zy h=>nomatch h),n1.symm⟩) gv (⟨⟨λc zz=> .inl hn,λi s e=>nomatch gl.symm.trans e⟩,Ne.symm (aE hk)⟩) gl (mZ r1 K hh .refl) (mZ r2 K hh .refl))⟩,Ne.symm (aE (ao hk K0.len)),aj hn K0.len,⟨p1.g,p2.g⟩,by erw [oA];exact hl,hd⟩) K
end
end
section
mutual
variable{d n kp t:Nat}{H au H':Hp}{dk sc tb rw dc τ k ki i k1 k2:Nat}{es es':List (List Nat×AV)}{v:AV}{x a b:D}{ls:Ls}{ok:Nat->Prop}{ws:List AV}
def Nr(x:D):(tl true x).length<=(tx true x).length+4:=by
 rcases vw true x with⟨e,h⟩ | ⟨_,h⟩ | ⟨_,h⟩ <;> (first | lia | omega)
def Cu(B:LBase n kp dk sc rw dc)(p1:PIt n kp H es t k1 a)(p2:PIt n kp H es t k2 b)(hk:kp<H.length)(hn:n<=H.length)(hl:(tx true a).length+(tx true b).length<=44):∃ki x H' ls',gI (d+5) (MW dk kp tb i k1 k2) H (CQ.body.drop 3) (.ret (.ref ki),ls',H')/\PIt n kp H' es (t+1) ki x/\Keep all H H':=by
 have d1:=p1.dp;have d2:=p2.dp;have m1:1+max (Mine.Internal.dp a) (Mine.Internal.dp b)<=2*(t+1):=by have:=wM.mpr ⟨d1,d2⟩;exact(bF (aK (aI 1) ai) (f6 2 cO) [(ai,f6 2 az)] aS this)
 rcases Decidable.em (((i:Nat):Int)=1)with h | h
 ·refine dY (Du (d:=d+4) (dk:=dk) (tb:=tb) (i:=i) (t:=t+1) p1 p2 hk hn (by exact(bF (aK (aK (aI 4) ai) az) (aI 49) [(aK ai az,aI 44)] aS hl)) m1) λki H' e p K=>?_;exact yi ki _ H' _ (mw (cT rfl (dT h)) (fx e)) p K
 ·rcases Decidable.em (((i:Nat):Int)=2)with h2 | h2
  ·have K0:Keep all H (H++ [ui (.obj 0) .empty]):=Keep.app;have hh:y3 n kp H all:=λzz zy zx zw zv=>trivial;have n0:H.length≠kp:=Ne.symm (aE hk);have p0:PIt n kp (H++ [ui (.obj 0) .empty]) es 0 H.length .empty:=⟨⟨.obj 0,aV,rfl⟩,n0,hn,trivial,ab rfl,aY _⟩;have l0:(tl true D.empty).length=1:=rfl;refine dY (qE (d:=d+3) (t:=t+1) B (p2.move K0 hh .refl) p0 (ao hk K0.len) (aj hn K0.len) (by lia) (by show 1+max (Mine.Internal.dp b) 0<=_;(clear l0 n0 h2 h m1 hl hn hk;lia))) λkj au e1 q1 K1=>?_;have l1:(tl true (.pair b .empty)).length=(tx true b).length+2:=by
    show([32]++tx true b++ [41]).length=_
    erw [ag,ag];show 1+_+1=_;exact(bJ (cA (eT (aK (aI 1) ai)) (aK ai (aI 2)) [] aS) (cA (aK ai (aI 2)) (eT (aK (aI 1) ai)) [] aS))
   refine dY (qE (d:=d+3) (t:=t+1) B ((p1.move K0 hh .refl).move K1 (λzz zy zx zw zv=>trivial) .refl) q1 (ao (ao hk K0.len) K1.len) (aj (aj hn K0.len) K1.len) (by exact(gn (aK (aK (aI 1) ai) az) (aI 49) [(az,aK bH (aI 2)),(aK ai bH,aI 44)] aS (pK l1) hl)) (by
    have e0:Mine.Internal.dp (.pair b .empty)=1+max (Mine.Internal.dp b) 0:=rfl
    erw [e0,Nat.max_zero]
    have:=wM.mpr ⟨gL d1,show 1+Mine.Internal.dp b<=2*t+1 from by exact(bF (aK (aI 1) ai) (eT (f6 2 az)) [(ai,f6 2 az)] aS d2)⟩
    exact(bF (aK (aI 1) ai) (f6 2 cO) [(ai,eT (f6 2 az))] aS this))) λki H' e p K=>?_;exact yi ki _ H' _ (ij (cT rfl (kA h)) (mw (cT rfl (dT h2)) (fx (bj (ak (ah rfl) (ak (bj (ak (ah rfl) (ak (hZ aA aA aA) aq)) e1) aq)) e)))) p (K0.trans (K1.trans K))
  ·have l2:=Nr b;refine dY (qE (d:=d+3) (t:=t+1) B p1 p2 hk hn (by exact(gn (aK (aK (aI 1) ai) az) (aI 49) [(az,aK bH (aI 4)),(aK ai bH,aI 44)] aS l2 hl)) m1) λki H' e p K=>?_;exact yi ki _ H' _ (ij (cT rfl (kA h)) (ij (cT rfl (kA h2)) (fx (bj (ak (ah rfl) (ak (ah rfl) aq)) e)))) p K
def RA(W:LW H dk sc tb rw dc τ es)(hτ:τ<=70000)(B:LBase n kp dk sc rw dc)(hp:Hk H kp (.list ws))(hw:0<ws.length)(hw':ws.length<=1000000)(hi:∀w∈ws,∃ki x,w= .ref ki/\PIt n kp H es t ki x):∃ki x H' es',aQ (d+6) H 129 [.ref dk, .ref kp, .ref tb] (.ref ki,H')/\LW H' dk sc tb rw dc (τ+10) es'/\Sub es es'/\PIt n kp H' es' (t+1) ki x/\Keep (Hl dk rw dc) H H':=by
 have nd:kp≠dk:=B.okp.1;refine fy (W.d122 (d:=d+4) (n:=6) (by decide) (by exact(cA ai (aI 100000) [(ai,aI 70000)] aS hτ))) λi au zz e1 W1 K1=>?_;have hp1:=K1.at_ _ _ nd hp;refine gT (yJ (d:=d+3) W1.hD (by exact(cA bh (aI 100000) [(ai,aI 70000)] aS hτ)) hp1 nd hw hw') λi2 v2 aP h2 e2 D2 K2=>?_;have W2:=W1.draw K2 D2;have hp2:=K2.at_ _ _ nd hp1;refine gT (yJ (d:=d+3) W2.hD (by exact(cA (eT bh) (aI 100000) [(ai,aI 70000)] aS hτ)) hp2 nd hw hw') λi3 v3 dM h3 e3 D3 K3=>?_;have W3:=W2.draw K3 D3;have hp3:=K3.at_ _ _ nd hp2;have K:Keep (·≠dk) H dM:=K1.trans (K2.trans K3);refine gz (hi _ (bN h2)) λk1 a xq1 p1=>?_;subst xq1;refine gz (hi _ (bN h3)) λk2 b xq2 p2=>?_;subst xq2;obtain⟨xq3,_⟩:=W.hD.cells;refine ub xq3 λz1 z2 z3 hdk=>?_;have hh:iD n H (·≠dk):=iD.ne hdk B.dk rfl;have q1:=p1.move K hh.p .refl;have q2:=p2.move K hh.p .refl;refine aM (q1.it) λu1 c1 zz=>?_;refine aM (q2.it) λu2 c2 zz=>?_;have l1:=q1.len;have l2:=q2.len;have sum:Re (d+5) (MW dk kp tb i k1 k2) dM (.o .add (.bi .len [(.idx (.v 4) (.lit (.int 1)))]) (.bi .len [(.idx (.v 5) (.lit (.int 1)))])) (.int (((tx true a).length:Int)+((tx true b).length:Int)),dM):=bT (eI (ak (dD (ah rfl) aA (pM (w:=true) (j:=1) c1 rfl)) aq) (len_str (by exact(cA ai cY [(ai,aI 49)] aS l1)))) (eI (ak (dD (ah rfl) aA (pM (w:=true) (j:=1) c2 rfl)) aq) (len_str (by exact(cA ai cY [(ai,aI 49)] aS l2)))) rfl;have hn3:n<=dM.length:=aj (aj B.kp (d6 (bx hp))) K.len;have fin:∀{o:Fl×Ls×Hp},gI (d+5) (MW dk kp tb i k1 k2) dM (CQ.body.drop 2) o->gI (d+5) [some (.ref dk),some (.ref kp),some (.ref tb),none,none,none,none,none] H CQ.body o:=λh=>cL (bj (bW rfl (gS aq)) e1) rfl (lR (gR (ak (bj (bW rfl (ak (ah rfl) aq)) e2) (ak (bj (bW rfl (ak (ah rfl) aq)) e3) aq)) (aN (ab rfl))) (mr (dj (eu rfl) (dj (eu rfl) jF))) h);rcases Decidable.em (((i:Nat):Int)=0\/(44:Int)<((tx true a).length:Int)+((tx true b).length:Int))with h | h
 ·refine w6 (L9 (d:=d+1) W3 (by exact(cA (eT (eT bh)) (aI 80000) [(ai,aI 70000)] aS hτ))) λki x mL es4 e4 M ha=>?_;have hp4:=M.K.at_ _ _ B.okp hp3;have t0:Rt (d+5) (MW dk kp tb i k1 k2) dM (.or (.j .eq (.v 3) (.lit (.int 0))) (.j .gt (.o .add (.bi .len [(.idx (.v 4) (.lit (.int 1)))]) (.bi .len [(.idx (.v 5) (.lit (.int 1)))])) (.lit (.int 44)))) (true,dM):=by
   rcases Decidable.em (((i:Nat):Int)=0)with h0 | h0
   ·exact zc (cT rfl (dT h0))
   ·exact iP (cT rfl (kA h0)) (gO sum aA (dT (h.resolve_left h0)))
  exact tB ki x mL es4 (bz (F:=CQ) rfl rfl rfl (fin (mw t0 (fx (bj (bW rfl (ak (ah rfl) aq)) e4))))) (M.W.le (by exact(cA (aK (eT (eT bh)) (aI 7)) (aK ai (aI 10)) [] aS))) M.sb (M.item ha hn3 (bx hp3) hp4) ((uu K).trans M.K)
 ·refine w6 (Cu (d:=d) (tb:=tb) (i:=i) B q1 q2 (bx hp3) hn3 (by lia)) λki x mL ls' e4 p K4=>?_;exact tB ki x mL es (bz (F:=CQ) rfl rfl rfl (fin (ij (iP (cT rfl (kA λe=>h (.inl e))) (gO sum aA (dF λe=>h (.inr e)))) e4))) ((W3.more K4).le (by exact(cA (eT (eT bh)) (aK ai (aI 10)) [] aS))) .refl p ((uu K).trans (K4.weak λzz zy=>trivial))
end
end
section
mutual
variable{sc:List Int}
variable{d:Nat}{H H':Hp}{l0 l1 l3:Option AV}
def Er{l:Nat}{as:List Int}(hl:Hk H l (.list (as.map .int))):∀(m j:Nat) (us:List AV) (x:Option AV),as.length<=j+m->us.length+(as.length-j)<=1000->
  ∃us',lP d [l0,l1,x,l3] (H++ [.list us]) (.cell l j) (.one 2) (some (.j .lt (.v 2) (.lit (.int 0)))) (.v 2) H.length (H++ [.list us'])/\us'.length<=1000:=by
 have nx:∀(us:List AV) j,It.next (H++ [.list us]) (.cell l j)=some (((as.map AV.int)[j]?).map λv=>(v, .cell l (j+1))):=λus j=>gj (fj (bD hl));intro m
 induction m with
 | zero=>
  intro j us x hj hu;exact bI us (gq (by erw [nx,(ez (by erw [aL];exact hj))];rfl)) (by exact(bF ai (aI 1000) [(aK ai az,aI 1000)] aS hu))
 | succ m ih=>
  intro j us x hj hu;cases ha:as[j]? with
  | none=>
   have hj':=fm.mp ha;exact bI us (gq (by erw [nx,(ez (by erw [aL];exact hj'))];rfl)) (by exact(bF ai (aI 1000) [(aK ai az,aI 1000)] aS hu))
  | some a=>
   have n:It.next (H++ [.list us]) (.cell l j)=some (some (.int a, .cell l (j+1))):=by erw [nx,ey,ha];rfl
   have lt:=(aU.mp ha).1;rcases Decidable.em (a<0)with h | h
   ·refine aM (ih (j+1) (us++ [.int a]) (some (.int a)) (by exact(gn ai (aK cO bH) [(ai,aK az mc)] aS hj)) (by erw [ag];show us.length+1+_<=_;exact(Aj (aK bh az) (aI 1000) [(aK az mc,cQ),(cQ,aK nW bH),(aK ai nW,aI 1000)] aS (pK (dW lt)) (th _ _) hu))) λus' e hu'=>?_;exact bI us' (Au n rfl (cT rfl (dT h)) (ah rfl) aV (aN (by exact(bF ai cY [(aK ai az,aI 1000)] aS hu))) (by erw [lF];exact e)) hu'
   ·refine aM (ih (j+1) us (some (.int a)) (by exact(gn ai (aK cO bH) [(ai,aK az mc)] aS hj)) (by exact(Aj (aK ai az) (aI 1000) [(aK az mc,cQ),(cQ,aK nW bH),(aK ai nW,aI 1000)] aS (pK (dW lt)) (th _ _) hu))) λus' e hu'=>?_;exact bI us' (u4 n rfl (cT rfl (dF h)) e) hu'
def xm{vs:List AV}(h:vs.length<=1000000):iw (.a vs) none (some (.int 30)) H=some (.ref H.length,H++ [.list (vs.take 30)]):=by
 show eV (cG vs.length) (some (lN H (.list ((vs.take 30).drop 0))))=_
 erw [aN h];rfl
def RD(hs:sc.length<=1000000):∃dk s H',aQ (d+1) H 124 [.a (sc.map .int), .int 30] (.ref dk,H')/\Deck H' dk s 0/\H.length<=dk/\H.length<=s/\Keep all H H':=by
 have ls:(sc.map AV.int).length<=1000000:=by erw [aL];exact hs
 have tk:(sc.map AV.int).take 30=(sc.take 30).map .int:=List.map_take.symm;have lt:(sc.take 30).length<=30:=by erw [lY];exact Nat.min_le_left _ _
 have g1:(H++ [Cell.list ((sc.take 30).map AV.int)])[H.length]? =_:=aV;have e1:=yC (d:=d) (H:=H++ [Cell.list ((sc.take 30).map AV.int)]) (f:= .int) (g:=λi:Int=> .int i.natAbs) (a:= .bi .abs [.v 2]) (i:=2) g1 (λx m ls H hi=>eI (ak (ah (lh (cM.mp hi))) aq) rfl) (sc.take 30).length 0 [] [some (.a (sc.map .int)),some (.int 30),none,none] rfl (by exact(cA ai (aK (aI 0) ai) [] aS)) (by show 0+_<=_;exact(cA (aK (aI 0) ai) (aK cY (aI 0)) [(ai,aI 30)] aS lt));have c1:Re d [some (.a (sc.map .int)),some (.int 30),none,none] H (.comp (.bi .abs [(.v 2)]) (.one 2) (.slice (.v 0) none (some (.v 1))) false none) (.ref (H++ [Cell.list ((sc.take 30).map AV.int)]).length,H++ [Cell.list ((sc.take 30).map AV.int)]++ [.list ((sc.take 30).map λi:Int=> .int i.natAbs)]):=k7 rfl (k6 (ah rfl) (ah rfl) (by erw [xm ls,tk];rfl)) (jw g1) e1;have K1:Keep all H (H++ [Cell.list ((sc.take 30).map AV.int)]++ [Cell.list ((sc.take 30).map λi:Int=>AV.int i.natAbs)]):=Keep.app.trans Keep.app;have g2:(H++ [Cell.list ((sc.take 30).map AV.int)]++ [Cell.list ((sc.take 30).map λi:Int=>AV.int i.natAbs)]++ [Cell.list ((sc.take 30).map AV.int)])[(H++ [Cell.list ((sc.take 30).map AV.int)]++ [Cell.list ((sc.take 30).map λi:Int=>AV.int i.natAbs)]).length]? =_:=aV;refine aM (Er (d:=d) (l0:=some (.a (sc.map .int))) (l1:=some (.int 30)) (l3:=none) g2 (sc.take 30).length 0 [] none (by exact(cA ai (aK (aI 0) ai) [] aS)) (by show 0+_<=_;exact(bF (aK (aI 0) ai) (aI 1000) [(ai,az),(az,aI 30)] aS (wK _ _) lt))) λus' e2 hu'=>?_;have c2:=k7 (d:=d) (ls:= [some (.a (sc.map .int)),some (.int 30),none,none]) (pt:= .one 2) (cnd:=some (.j .lt (.v 2) (.lit (.int 0)))) (b:= .v 2) (a:= .slice (.v 0) none (some (.v 1))) rfl (k6 (H:=H++ [Cell.list ((sc.take 30).map AV.int)]++ [Cell.list ((sc.take 30).map λi:Int=>AV.int i.natAbs)]) (ah rfl) (ah rfl) (by erw [xm ls,tk];rfl)) (jw g2) e2;have g3:(H++ [Cell.list ((sc.take 30).map AV.int)])[(H++ [Cell.list ((sc.take 30).map AV.int)]).length]? =none:=ez (ay _);have gs:Hk (H++ [Cell.list ((sc.take 30).map AV.int)]++ [Cell.list ((sc.take 30).map λi:Int=>AV.int i.natAbs)]) ((H++ [Cell.list ((sc.take 30).map AV.int)]).length) (.list ((sc.take 30).map λi:Int=> .int i.natAbs)):=aV;have K2:Keep all (H++ [Cell.list ((sc.take 30).map AV.int)]++ [Cell.list ((sc.take 30).map λi:Int=>AV.int i.natAbs)]) (H++ [Cell.list ((sc.take 30).map AV.int)]++ [Cell.list ((sc.take 30).map λi:Int=>AV.int i.natAbs)]++ [Cell.list ((sc.take 30).map AV.int)]++ [Cell.list us']++ [Cell.list [AV.ref (H++ [Cell.list ((sc.take 30).map AV.int)]).length,AV.int 0,AV.int (977+(us'.length:Int))]]):=Keep.app.trans (Keep.app.trans Keep.app);exact iR _ _ _ (bz (F:=OL) rfl rfl rfl (fx (hZ c1 aA (bT aA (eI (ak c2 aq) (ku aV (by exact(cA ai cY [(ai,aI 1000)] aS hu')))) rfl)))) (⟨(sc.take 30).map λi:Int=>(i.natAbs:Int),0,977+(us'.length:Int),aV,by erw [iC];exact K2.at_ _ _ trivial gs,ay _,by exact(eC [] [_] 0 (.ik 0) (.ip (.ik 977) (.ic ai)) .ho aS),by exact(eC [] [_] 0 (.ip (.ip (.ik 977) (.ic ai)) (.ik 1)) (.ik 4294967296) (.hn ai (aI 1000) .ho) aS hu'),by erw [aL];exact(cA ai (aI 1000) [(ai,aI 30)] aS lt)⟩) ((K1.trans ((Keep.app (L:= [Cell.list ((sc.take 30).map AV.int)])).trans (Keep.app (L:= [Cell.list us'])))).len) ((Keep.app (ok:=all)).len) (K1.trans K2)
def JG{N:Nat}(h:N<8):gC H (.rng 0 N 1)=some (.rng 0 1 N):=by
 have t:∀i:Nat,i<8->cy 0 i 1=true/\hO 0 i 1=i:=by decide
 show eV (cy 0 N 1) (some (It.rng 0 1 (hO 0 N 1)))=_
 erw [(t N h).1,(t N h).2];rfl
def Jg{ls:Ls}(a b:Nat)(h0:ls[0]? =some (some (.a (sc.map .int))))(hs:sc.length<=1000000)(k m:Nat)(hk:0<k)(hk':k<=1000):Re d ls H (.bi .range [(.o .add (.lit (.int a)) (.o .fdiv (.bi .min [(.bi .len [(.v 0)]),(.lit (.int m))]) (.lit (.int k))))]) (.rng 0 ((a+min sc.length m / k:Nat):Int) 1,H):=by
 have ln:Re d ls H (.bi .len [.v 0]) (.int (sc.length:Int),H):=eI (ak (ah h0) aq) (by
  show eV (cG (sc.map AV.int).length) _=_
  erw [aL,aN hs];rfl);have mn:BS .min [.int (sc.length:Int), .int (m:Int)] H=some (.int ((min sc.length m:Nat):Int),H):=by
  show some (AV.int (if(m:Int)<(sc.length:Int)then(m:Int)else(sc.length:Int)),H)=_
  rcases yV m sc.length with h | h
  ·erw [if_pos (fX.mpr h),AM (d6 h)];rfl
  ·erw [if_neg (jg.mpr (bP.mpr h)),iK h];rfl
 exact eI (ak (bT aA (bT (eI (ak ln (gS aq)) mn) aA (BD hk (fC hk' (ao (show 1000<10 ^ 4 from ab rfl) (cq (cI _) (ab rfl)))))) rfl) aq) (by
  show some (AV.rng 0 ((a:Int)+lq ((min sc.length m:Nat):Int) (k:Int)) 1,H)=_
  erw [<- Int.ofNat_fdiv];rfl)
end
end
mutual
structure PL(n kp:Nat)(H:Hp)(dk sc tb rw dc τ:Nat)(es:List (List Nat×AV))(t:Nat)(ws:List AV):Prop where
 W:LW H dk sc tb rw dc τ es
 B:LBase n kp dk sc rw dc
 hp:Hk H kp (.list ws)
 hi:∀w∈ws,∃ki x,w= .ref ki/\PIt n kp H es t ki x
 hw:0<ws.length
end
section
mutual
variable{d n kp t:Nat}{H au H':Hp}{dk sc tb rw dc τ k ki i:Nat}{es es':List (List Nat×AV)}{v v0:AV}{x:D}{ls:Ls}{ok:Nat->Prop}{ws:List AV}
def PL.keep(p:PL n kp H dk sc tb rw dc τ es t ws)(K:Keep ok H H')(h:∀k,k<H.length->ok k):PL n kp H' dk sc tb rw dc τ es t ws:=
 ⟨p.W.keep K h,p.B,K.at_ _ _ (h _ (bx p.hp)) p.hp,λw m=>by refine gz (p.hi w m) λki x e q=>?_;exact⟨ki,x,e,q.move K (λk c e zz zy=>h k (bx e)) .refl⟩,p.hw⟩
def PL.more(p:PL n kp H dk sc tb rw dc τ es t ws)(K:Keep all H H'):PL n kp H' dk sc tb rw dc τ es t ws:=p.keep K λzz zy=>trivial
def PL.hasd(p:PL n kp H dk sc tb rw dc τ es t ws):iD n H (·≠dk):=by
 obtain⟨xq1,_⟩:=p.W.hD.cells;refine ub xq1 λz1 z2 z3 hdk=>?_;exact iD.ne hdk p.B.dk rfl
def PL.draw{τ':Nat}(p:PL n kp H dk sc tb rw dc τ es t ws)(K:Keep (·≠dk) H H')(D':Deck H' dk sc τ'):PL n kp H' dk sc tb rw dc τ' es t ws:=
 ⟨p.W.draw K D',p.B,K.at_ _ _ p.B.okp.1 p.hp,λw m=>by refine gz (p.hi w m) λki x e q=>?_;exact⟨ki,x,e,q.move K p.hasd.p .refl⟩,p.hw⟩
def LBase.nsc(B:LBase n kp dk sc rw dc):kp≠sc:=Ne.symm (aE (ao B.sc B.kp))
def PL.add(p:PL n kp H dk sc tb rw dc τ es t ws)(q:PIt n kp H es (t+1) ki x):PL n kp (H.set kp (.list (ws++ [.ref ki]))) dk sc tb rw dc τ es (t+1) (ws++ [.ref ki]):=by
 have K:Keep (·≠kp) H (H.set kp (.list (ws++ [.ref ki]))):=Keep.set λo=>o rfl;have hh:y3 n kp H (·≠kp):=λzz zy zx zw h=>h;refine⟨p.W.put p.hp p.B.okp.1 p.B.nsc p.B.okp.2.1,p.B,cP (bx p.hp),λw m=>?_,by erw [ag];exact ao p.hw (bw _ _)⟩;cases dz.mp m with
 | inl m=>refine gz (p.hi w m) λkj y e q=>?_;exact kX kj y e ((q.move K hh .refl).le (ox t))
 | inr m=>exact kX ki x (fD.mp m) (q.move K hh .refl)
noncomputable abbrev PP(v0:AV)(dk tb kp:Nat)(x4:Option AV):Ls:= [some v0,some (.ref dk),some (.ref tb),some (.ref kp),x4,none,none,none,none,none,none,none,none,none]
def uz:∀(N:Nat) {H:Hp} {τ t:Nat} {es:List (List Nat×AV)} {ws:List AV} {a:Int} {x4:Option AV},PL n kp H dk sc tb rw dc τ es t ws->ws.length+N<=1000->τ+10*N<=60000->∃(ws':List AV) (es':List (List Nat×AV)) (x4':Option AV) (H':Hp),lO 199 (PP v0 dk tb kp x4) H (.rng a 1 N) (.one 4) [(.expr (.meth (.v 3) 0 [(.call 129 [(.v 1),(.v 3),(.v 2)])]))] (.next,PP v0 dk tb kp x4',H')/\PL n kp H' dk sc tb rw dc (τ+10*N) es' (t+N) ws'/\ws'.length<=1000
 | 0,H,τ,t,es,ws,a,x4,p,hl,_=>(yi ws es x4 H (iH rfl) p hl)
 | N+1,H,τ,t,es,ws,a,x4,p,hl,hτ=>by
  refine w3 (RA (d:=193) p.W (by exact(bF ai (aI 70000) [(aK ai (f6 10 cO),aI 60000)] aS hτ)) p.B p.hp p.hw (by exact(bF ai cY [(aK ai cO,aI 1000)] aS hl)) p.hi) λki x au tK e W1 sb q K=>?_;have p1:PL n kp au dk sc tb rw dc (τ+10) tK t ws:=⟨W1,p.B,K.at_ _ _ p.B.okp p.hp,λw m=>by refine gz (p.hi w m) λkj y e q=>?_;exact⟨kj,y,e,q.move K (p.W.has p.B.dk p.B.rw p.B.dc).p sb⟩,p.hw⟩;refine w6 (uz N (a:=a+1) (x4:=some (.int a)) (p1.add q) (by erw [ag];show _+1+N<=_;exact(bF (aK bh az) (aI 1000) [(aK ai cO,aI 1000)] aS hl)) (by exact(bF (aK (aK ai (aI 10)) (f6 10 az)) (aI 60000) [(aK ai (f6 10 cO),aI 60000)] aS hτ))) λws' es' x4' H' e2 p2 hl'=>?_;exact yi ws' es' x4' H' (fq (v:= .int a) (it':= .rng (a+1) 1 N) rfl rfl (ux (ft (ah rfl) p.hp (bj (bW rfl (bW rfl (ak (ah rfl) aq))) e) p1.hp (aN (by exact(bF ai cY [(aK ai cO,aI 1000)] aS hl)))) bb) e2) (by erw [(show τ+10*(N+1)=τ+10+10*N from by exact(bJ (bF (aK ai (f6 10 cO)) (aK (aK ai (aI 10)) (f6 10 az)) [] aS) (bF (aK (aK ai (aI 10)) (f6 10 az)) (aK ai (f6 10 cO)) [] aS))),(show t+(N+1)=t+1+N from by exact(bJ (bF (aK ai cO) (aK bh az) [] aS) (bF (aK bh az) (aK ai cO) [] aS)))];exact p2) hl'
def gJ.any{ok:Nat->Prop}(r:gJ ok H v x):gJ all H v x:=r.mono (λk c zz e=>⟨trivial,e⟩) x v
def Es{m:Nat}(h:Pd (rm x) m)(hm:m<=64):iI H .ne (rm x) (rm x)=some false:=by
 have go:∀{vs:List AV},Pd (.U vs) m->iI H .ne (.U vs) (.U vs)=some false:=fun{vs} h=>by
  refine dt h λp a b c=>?_
  show(CV ((toPDs vs).map .tuple) ((toPDs vs).map .tuple)).map (!·)=_
  erw [(show(toPDs vs).map PyData.tuple=some p from a),yx b (aj c hm)]
  rfl
 induction x using D.casesOn <;> exact go h
noncomputable abbrev Qt(v0:AV)(dk tb kp:Nat)(x4 x5 x6 x7 x8 x9:Option AV):Ls:= [some v0,some (.ref dk),some (.ref tb),some (.ref kp),x4,x5,x6,x7,x8,x9,none,none,none,none]
noncomputable abbrev Ta:List S:= [(.ite (.or (.j .ne (.call 120 [(.v 5)]) (.v 6)) (.j .ne (.call 121 [(.v 5)]) (.v 7))) [(.ret (.lit (.bool false)))] []),(.aS (.v 8) (.new 2 [])),(.aS (.v 9) (.call 108 [(.v 6),(.v 8)])),(.ite (.or (.j .ne (.call 125 [(.v 9),(.v 8)]) (.call 125 [(.v 5),(.v 2)])) (.j .ne (.call 120 [(.v 9)]) (.v 6))) [(.ret (.lit (.bool false)))] [])]
def GX(g:x.good):Sk (tx true x) (tx true x++ []):=by
 refine gz (gQ x g) λc u e h=>?_
 erw [br,e]
 exact iN h
def check{x4 x8 x9:Option AV}(p:PL n kp H dk sc tb rw dc τ es t ws)(r:gJ (Pn n kp H es) H v x)(g:x.good)(hl:(tx true x).length<=49)(hd:dp x<=20):∃x8' x9' H',gI 199 (Qt v0 dk tb kp x4 (some v) (some (.str (tx true x))) (some (.str (tx false x))) x8 x9) H Ta (.next,Qt v0 dk tb kp x4 (some v) (some (.str (tx true x))) (some (.str (tx false x))) x8' x9',H')/\PL n kp H' dk sc tb rw dc τ es t ws/\Keep (· <H.length) H H':=by
 have ln:=z5 x g;have hz:sz x<=900000:=by exact(bF ai (aI 900000) [(bh,f6 3 az),(az,aI 49),(az,aI 49),(az,aI 49)] aS ln.2.2 hl hl hl)
 refine aM (Pc (d:=175) (FR D9) x r.any g hz (by exact(cA ai cY [(ai,aI 49)] aS hl))) λHa ea Ka=>?_;refine aM (RF (d:=175) (FR D9) x (r.any.keep Ka) g hz (by exact(bF ai cY [(ai,az),(az,aI 49)] aS ln.2.1 hl))) λHb eb Kb=>?_;refine jX (c3 (d:=198) (H:=Hb)) λrw' dc' Hc ec Tc nr nd Kc=>?_;refine gT (RO (d:=175) (rest:= []) g Tc (by exact(cA ai cY [(ai,aI 49)] aS hl)) (GX g) (λc e=>nomatch e) .nil hz) λv' Hd es1 ed Td rd Kd=>?_;have Kab:Keep all H Hb:=Ka.trans Kb;have Kbd:Keep (· <Hb.length) Hb Hd:=Kc.trans (Kd.weak λi o=>(eD (ao o Kc.len) (aE (ao o nr)) (aE (ao o nd))));have pd:=(p.more Kab).keep Kbd λzz h=>h;refine aM ((vL Td x g hz).1 (e:=199) (by exact(bF (aK ai (aI 2)) (aI 199) [(bh,f6 3 az),(az,aI 49),(az,aI 49),(az,aI 49)] aS ln.2.2 hl hl hl)) rd .refl) λHe ee Ke=>?_;have pe:=pd.more Ke;have re:gJ (Pn n kp He es) He v x:=mZ (mZ (mZ r Kab (λzz zy zx zw zv=>trivial) .refl) Kbd (λk c e zz zy=>bx e) .refl) Ke (λzz zy zx zw zv=>trivial) .refl;refine aM ((vL (n:=n) pe.W.hT x g hz).1 (e:=199) (by exact(bF (aK ai (aI 2)) (aI 199) [(bh,f6 3 az),(az,aI 49),(az,aI 49),(az,aI 49)] aS ln.2.2 hl hl hl)) (re.mono (λk c o e=>⟨o.1,e⟩) x v) .refl) λHf ef Kf=>?_;refine aM (Pc (d:=175) (FR D9) x ((rd.any.keep Ke).keep Kf) g hz (by exact(cA ai cY [(ai,aI 49)] aS hl))) λHg eg Kg=>?_;have pg:=(pe.more Kf).more Kg;have ns:iI Hf .ne (rm x) (rm x)=some false:=Es (DY x g).1 (by exact(cA (aK (f6 3 ai) (aI 3)) (aI 64) [(ai,aI 20),(ai,aI 20),(ai,aI 20)] aS hd hd hd));exact LF _ _ Hg (ij (iP (gO (bj (bW rfl aq) ea) (ah rfl) (nJ rfl)) (gO (bj (bW rfl aq) eb) (ah rfl) (nJ rfl))) (cL (gH aq rfl ec) rfl (cL (bj (ak (ah rfl) (ak (ah rfl) aq)) ed) rfl (aC (cV (iP (gF rfl (dy (bj (ak (ah rfl) (ak (ah rfl) aq)) ee) (bj (ak (ah rfl) (ak (ah rfl) aq)) ef) ns)) (gF rfl (dy (bj (ak (ah rfl) aq) eg) (ah rfl) (nJ rfl)))) bb) bb)))) pg ((Kab.weak λzz zy=>trivial).trans ((Kbd.weak λi o=>ao o Kab.len).trans ((Ke.trans (Kf.trans Kg)).weak λzz zy=>trivial)))
end
end
mutual
class inductive F2{α β:Type}(Q:α->β->Prop):List α->List β->Prop
 | nil:F2 Q [] []
 | cons {a b as bs}:Q a b->F2 Q as bs->F2 Q (a::as) (b::bs)
end
section
mutual
variable{α β γ:Type}{Q:α->β->Prop}{as:List α}{bs:List β}
def F2.len(h:F2 Q as bs):as.length=bs.length:=by
 induction h with
 | nil=>rfl
 | cons zz zy ih=>exact congrArg (· +1) ih
def F2.ex:∀{as:List α},(∀a∈as,∃b,Q a b)->∃bs,F2 Q as bs
 | [],_=>⟨[], .nil⟩
 | a::as,h=>by
  obtain⟨b,q⟩:=h a bl;obtain⟨bs,f⟩:=F2.ex λa m=>h a (bO _ m);exact⟨b::bs, .cons q f⟩
end
end
mutual
abbrev G0:List (List Nat):= [[32],[10],[32,59,120,10],[9]]
abbrev PE(x:D)(t:List Nat):Prop:=x.good/\(tx true x).length<=49/\∃s∈G0,t=tx true x++s
abbrev Pass(s:List Nat):Prop:= ∀u r,Sk u r->Sk (s++u) r
def vR{c:Nat}(h:nX.contains c=true)(h2:c≠59){s:List Nat}(p:Pass s):Pass (c::s):=λu r k=> .blank h h2 (p u r k)
def pF:Pass []:=λzz zy k=>k
def xy:∀s∈G0,Pass s/\(∀u,ie (s++u))/\s.length<=4:=by
 have t1:Pass [10]:=vR rfl (by decide) pF;have t3:Pass [32,59,120,10]:=λu r k=> .blank rfl (by decide) (.line (u:= [120]) (s:=u) (λx m=>by cases m with | head=>decide | tail zz m=>exact nomatch m) (t1 u r k));intro s m;cases m with
 | head=>exact eD (vR rfl (by decide) pF) (λu=>ie.cons rfl) (by decide)
 | tail zz m=>cases m with
  | head=>exact eD t1 (λu=>ie.cons rfl) (by decide)
  | tail zz m=>cases m with
   | head=>exact eD t3 (λu=>ie.cons rfl) (by decide)
   | tail zz m=>cases m with
    | head=>exact eD (vR rfl (by decide) pF) (λu=>ie.cons rfl) (by decide)
    | tail zz m=>exact nomatch m
def Sq.pass{s:List Nat}{xs:List D}(p:Pass s)(q:Sq u xs):Sq (s++u) xs:=by
 cases q using Sq.casesOn with
 | nil k=>exact .nil (p _ _ k)
 | cons k hs g hz q=>exact .cons (p _ _ k) hs g hz q
set_option tactic.hygienic true in
theorem GV{xs:List D}{ts:List (List Nat)}(h:F2 PE xs ts):Sq (ts.flatten++ [59,41]) xs/\ts.flatten.length<=60*xs.length:=by
 induction h with
 | nil=>exact⟨.nil (.last λx m=>by cases m with | head=>decide | tail _ m=>exact nomatch m),aY _⟩
 | cons q f ih=>
  rename_i x t xs ts
  obtain⟨g,hl,s,hs,xq1⟩:=q;subst xq1;refine kI (xy s hs) λp st ls=>?_;have ln:=z5 x g;refine gz (gQ x g) λc u e hc=>?_;constructor
  ·erw [lj,aB,aB]
   exact .cons (rest:=s++(ts.flatten++ [59,41])) (by erw [e];exact iN hc) (st _) g (by exact(bF ai (aI 900000) [(bh,f6 3 az),(az,aI 49),(az,aI 49),(az,aI 49)] aS ln.2.2 hl hl hl)) (ih.1.pass p)
  ·erw [lj,ag,ag,aJ]
   have:=ih.2;exact(gV (aK (aK ai az) bH) (f6 60 Qx) [(bH,f6 60 cQ),(az,aI 4),(ai,aI 49)] aS ih.2 ls hl)
end
section
mutual
variable{α:Type}{j:Nat}{rs:List AV}
variable{n kp t R1:Nat}{H bU au H':Hp}{dk sc tb rw dc τ k ki i kc kd:Nat}{es es':List (List Nat×AV)}{v v0:AV}{x:D}{ws us:List AV}{x4 x5 x6 x7 x8 x9 x10 x11:Option AV}
noncomputable abbrev Dj(v0:AV)(dk tb kp:Nat)(x4 x5 x6 x7 x8 x9 x10 x11 x12:Option AV):Ls:= [some v0,some (.ref dk),some (.ref tb),some (.ref kp),x4,x5,x6,x7,x8,x9,x10,x11,x12,none]
def uJ(hp:Hk bU kp (.list ws))(hpd:kp≠dk)(hw:0<ws.length)(hw':ws.length<=1000)(h1:bU.length<=kc)(hd:dk<bU.length)(hs:sc<bU.length):∀(m:Nat) {H:Hp} {τ:Nat} {us:List AV} {a:Int} {x12:Option AV},Deck H dk sc τ->Keep (λk=>k<bU.length/\k≠dk) bU H->Hk H kc (.list us)->(∀u∈us,u∈ws)->us.length+m<=1000->τ+m<=90000->
  ∃(us':List AV) (H':Hp),lP 199 (Dj v0 dk tb kp x4 x5 x6 x7 x8 x9 x10 x11 x12) H (.rng a 1 m) (.one 12) none (.call 123 [.v 1, .v 3]) kc H'/\Deck H' dk sc (τ+m)/\Keep (λk=>k<bU.length/\k≠dk) bU H'/\Hk H' kc (.list us')/\(∀u∈us',u∈ws)/\us'.length=us.length+m
 | 0,H,τ,us,a,x12,D,K,hk,hu,_,_=>(HS us H (gq rfl) D K hk hu rfl)
 | m+1,H,τ,us,a,x12,D,K,hk,hu,hl,hτ=>by
  have hp':=K.at_ _ _ ⟨bx hp,hpd⟩ hp;have nk:kc≠dk:=Ne.symm (aE (ao hd h1));have ns:kc≠sc:=Ne.symm (aE (ao hs h1));refine gT (yJ (d:=197) D (by exact(bF ai (aI 100000) [(aK ai cO,aI 90000)] aS hτ)) hp' hpd hw (by exact(cA ai cY [(ai,aI 1000)] aS hw'))) λi v au hi e D1 K1=>?_;have g1:=K1.at_ _ _ nk hk;have K2:Keep (·≠kc) au (au.set kc (.list (us++ [v]))):=Keep.set λo=>o rfl;refine Go (uJ hp hpd hw hw' h1 hd hs m (a:=a+1) (x12:=some (.int a)) (D1.keep K2 nk.symm ns.symm) ((K.trans (K1.weak λk o=>o.2)).trans (K2.weak λk o=>aE (ao o.1 h1))) (cP (bx g1)) (λu m=>(dz.mp m).elim (hu u) λq=>by erw [fD.mp q];exact bN hi) (by erw [ag];show us.length+1+m<=_;exact(bF (aK bh az) (aI 1000) [(aK ai cO,aI 1000)] aS hl)) (by exact(bF (aK bh az) (aI 90000) [(aK ai cO,aI 90000)] aS hτ))) λus' H' e2 D2 K3 h2 h3 h4=>?_;exact HS us' H' (i4 (v:= .int a) (it':= .rng (a+1) 1 m) rfl rfl (bj (bW rfl (bW rfl aq)) e) g1 (aN (by exact(bF ai cY [(aK ai cO,aI 1000)] aS hl))) e2) (by erw [(show τ+(m+1)=τ+1+m from by exact(bJ (bF (aK ai cO) (aK bh az) [] aS) (bF (aK bh az) (aK ai cO) [] aS)))];exact D2) K3 h2 h3 (by erw [h4,ag];show us.length+1+m=_;exact gr ..)
abbrev Iw(n kp:Nat)(bU:Hp)(es:List (List Nat×AV))(t:Nat)(u:AV)(x:D):Prop:= ∃ki,u= .ref ki/\PIt n kp bU es t ki x
noncomputable abbrev Qk:E:= .o .add (.idx (.v 12) (.lit (.int 1))) (.call 123 [.v 1, .list [(.lit (.str [32])),(.lit (.str [10])),(.lit (.str [32,59,120,10])),(.lit (.str [9]))]])
def u3{us rs:List α}{u:α}(h:us.drop j=u::rs):us[j]? =some u/\us.drop (j+1)=rs:=by
 constructor
 ·have:=wO (xs:=us) (i:=j) (j:=0);rw[h]at this;exact this.symm
 ·erw [<- List.drop_drop,h];rfl
def drop_nil{us:List α}(h:us.drop j= []):us[j]? =none:=ez (List.drop_eq_nil_iff.mp h)
set_option tactic.hygienic true in
theorem D6(hn:dk<n)(hk0:Hk bU kc (.list us))(hkd:kc≠dk)(h1:bU.length<=kd)(hd:dk<bU.length)(hs:sc<bU.length){ys:List D}(f:F2 (Iw n kp bU es t) rs ys):∀(j:Nat) {H:Hp} {τ:Nat} {ps:List (List Nat)} {x12:Option AV},us.drop j=rs->Deck H dk sc τ->Keep (λk=>k<bU.length/\k≠dk) bU H->Hk H kd (.list (ps.map .str))->ps.length+rs.length<=1000->τ+rs.length<=90000->
  ∃(ts:List (List Nat)) (H':Hp),F2 PE ys ts/\lP 199 (Dj v0 dk tb kp x4 x5 x6 x7 x8 x9 x10 x11 x12) H (.cell kc j) (.one 12) none Qk kd H'/\Keep (λk=>k<bU.length/\k≠dk) bU H'/\Hk H' kd (.list ((ps++ts).map .str))/\Deck H' dk sc (τ+rs.length):=by
 induction f with
 | nil=>
  intro j H τ ps x12 hj D K hk _ _;have nx:=gj (i:=j) (fj (K.at_ _ _ ⟨bx hk0,hkd⟩ hk0));rw[drop_nil hj]at nx;exact CG ([]) H .nil (gq nx) K (by erw [br];exact hk) D
 | cons q f ih=>
  rename_i u x rs ys
  intro j H τ ps x12 hj D K hk hl hτ;rw[aJ]at hl hτ;obtain⟨hu,hj'⟩:=u3 hj;have nx:=gj (i:=j) (fj (K.at_ _ _ ⟨bx hk0,hkd⟩ hk0));rw[hu]at nx;refine aM q λki xq2 p=>?_;subst xq2;refine aM (p.it) λv hv r=>?_;have nk:kd≠dk:=Ne.symm (aE (ao hd h1));have ns:kd≠sc:=Ne.symm (aE (ao hs h1));have hv':=K.at_ _ _ ⟨bx hv,Ne.symm (aE (ao hn p.lo))⟩ hv;have K0:Keep all H (H++ [.list (G0.map .str)]):=Keep.app;have nn:H.length≠dk:=Ne.symm (aE (ao hd K.len));refine gT (yJ (d:=197) (D.keep K0 trivial trivial) (by exact(bF ai (aI 100000) [(aK ai cO,aI 90000)] aS hτ)) (aV (c:= .list (G0.map .str))) nn (by decide) (by decide)) λi w au hi e D1 K1=>?_;refine aM (cN.mp (bN hi)) λs hs' xq3=>?_;subst xq3;have ls:=(xy s hs').2.2;have lp:=p.len;have g1:=K1.at_ _ _ nk (K0.at_ _ _ trivial hk);have K2:Keep (·≠kd) au (au.set kd (.list ((ps++ [tx true x++s]).map .str))):=Keep.set λo=>o rfl;refine uc (ih (j+1) (x12:=some (.ref ki)) hj' (D1.keep K2 nk.symm ns.symm) (((K.trans (K0.weak λ_ _=>trivial)).trans (K1.weak λk o=>o.2)).trans (K2.weak λk o=>aE (ao o.1 h1))) (cP (bx g1)) (by erw [ag];show ps.length+1+_<=_;exact(bF (aK bh az) (aI 1000) [(aK ai cO,aI 1000)] aS hl)) (by exact(bF (aK bh az) (aI 90000) [(aK ai cO,aI 90000)] aS hτ))) λts H' f' e2 K3 h2 D2=>?_;rw[aB]at h2;refine CG ((tx true x++s)::ts) H' (.cons ⟨p.g,lp,s,hs',rfl⟩ f') (i4 nx rfl (bT (dD (ah rfl) aA (pM (w:=true) (j:=1) hv' rfl)) (bj (bW rfl (ak (fK (gS (gS (ak aA (ak aA aq)))) (aN (ab rfl))) aq)) e) (d9 (by exact(bF (aK ai az) cY [(az,aI 4),(ai,aI 49)] aS ls lp)))) g1 (aN (by erw [aL];exact(bF ai cY [(aK ai cO,aI 1000)] aS hl))) ?_) K3 h2 (by erw [aJ,(show τ+(rs.length+1)=τ+1+rs.length from by exact(bJ (bF (aK ai cO) (aK bh az) [] aS) (bF (aK bh az) (aK ai cO) [] aS)))];exact D2)
  erw [(show(ps.map AV.str)++ [.str (tx true x++s)]=(ps++ [tx true x++s]).map .str from by erw [bc];rfl)]
  exact e2
set_option tactic.hygienic true in
theorem sN{a:E}{Q:AV->D->Prop}(hk0:Hk bU kc (.list us))(h1:bU.length<=kd){ys:List D}(f:F2 Q rs ys)(hq:∀{u x H},Q u x->Keep (· <bU.length) bU H->∃H',Re 199 (Dj v0 dk tb kp x4 x5 x6 x7 x8 x9 x10 x11 (some u)) H a (rm x,H')/\Keep all H H'):∀(j:Nat) {H:Hp} {ps:List AV} {x12:Option AV},us.drop j=rs->Keep (· <bU.length) bU H->Hk H kd (.list ps)->ps.length+rs.length<=1000->
  ∃(H':Hp),lP 199 (Dj v0 dk tb kp x4 x5 x6 x7 x8 x9 x10 x11 x12) H (.cell kc j) (.one 12) none a kd H'/\Keep (· <bU.length) bU H'/\Hk H' kd (.list (ps++ys.map rm)):=by
 induction f with
 | nil=>
  intro j H ps x12 hj K hk _;have nx:=gj (i:=j) (fj (K.at_ _ _ (bx hk0) hk0));rw[drop_nil hj]at nx;exact eH H (gq nx) K (by erw [mU,br];exact hk)
 | cons q f ih=>
  rename_i u x rs ys
  intro j H ps x12 hj K hk hl;rw[aJ]at hl;obtain⟨hu,hj'⟩:=u3 hj;have nx:=gj (i:=j) (fj (K.at_ _ _ (bx hk0) hk0));rw[hu]at nx;refine aM (hq q K) λau e K1=>?_;have g1:=K1.at_ _ _ trivial hk;have K2:Keep (·≠kd) au (au.set kd (.list (ps++ [rm x]))):=Keep.set λo=>o rfl;refine dt (ih (j+1) (x12:=some u) hj' ((K.trans (K1.weak λ_ _=>trivial)).trans (K2.weak λk o=>aE (ao o h1))) (cP (bx g1)) (by erw [ag];show ps.length+1+_<=_;exact(bF (aK bh az) (aI 1000) [(aK ai cO,aI 1000)] aS hl))) λH' e2 K3 h2=>?_;rw[aB]at h2;exact eH H' (i4 nx rfl e g1 (aN (by exact(bF ai cY [(aK ai cO,aI 1000)] aS hl))) e2) K3 h2
end
end
section
mutual
variable{α β:Type}
variable{n kp t:Nat}{H H':Hp}{dk sc tb rw dc τ:Nat}{es:List (List Nat×AV)}{x:D}{ws us:List AV}{xs:List D}{x4 x5 x6 x7 x8 x9:Option AV}{l:List Int}
def F2.imp{Q R:α->β->Prop}{as:List α}{bs:List β}(h:F2 Q as bs)(g:∀a b,Q a b->R a b):F2 R as bs:=by
 induction h with
 | nil=>exact .nil
 | cons q zz ih=>exact .cons (g _ _ q) ih
def jI.f2{ok:Nat->Prop}:∀{us:List AV} {xs:List D},jI ok H us xs->F2 (gJ ok H) us xs
 | [],[],_=> .nil
 | [],_::_,r=>nomatch r.1
 | _::_,[],r=>nomatch r.1
 | u::us,x::xs,r=>by
  refine aM (r.2 0 u rfl) λy e q=>?_
  (replace e:=af e;subst e)
  exact .cons q (jI.f2 ⟨q6 r.1,λi v h=>r.2 (i+1) v h⟩)
def Bg{m:Nat}:∀{xs:List D},(∀x∈xs,Pd (rm x) m)->yT (xs.map rm) m
 | [],_=> .nil
 | x::xs,h=> .cons (h x bl) (Bg λy m=>h y (bO _ m))
def F2.mem{Q:α->β->Prop}{as:List α}{bs:List β}(h:F2 Q as bs):∀b∈bs,∃a∈as,Q a b:=by
 induction h with
 | nil=>exact λzz m=>nomatch m
 | cons q zz ih=>
  intro b m;cases m with
  | head=>exact bI _ bl q
  | tail zz m=>refine aM (ih b m) λa ha q=>?_;exact bI a (bO _ ha) q
def F2.with{Q:α->β->Prop}{P:β->Prop}{as:List α}{bs:List β}(h:F2 Q as bs):(∀b∈bs,P b)->F2 (λa b=>Q a b/\P b) as bs:=by
 induction h with
 | nil=>exact λzz=> .nil
 | cons q zz ih=>exact λg=> .cons ⟨q,g _ bl⟩ (ih λb m=>g b (bO _ m))
noncomputable abbrev rL(l:List Int):AV:= .a (l.map .int)
def HE(p:PL n kp H dk sc tb rw dc τ es t ws)(hw:ws.length<=1000)(hτ:τ<=60000)(ht:t<=8)(hl:l.length<=63):∃ls' H',gI 199 (Dj (rL l) dk tb kp x4 x5 x6 x7 x8 x9 none none none) H (Ff.body.drop 4) (.ret (.bool true),ls',H'):=by
 have low:=p.W.low;have nc:H.length≠dk:=Ne.symm (aE low.1);refine Go (uJ (v0:=rL l) (tb:=tb) (x4:=x4) (x5:=x5) (x6:=x6) (x7:=x7) (x8:=x8) (x9:=x9) (x10:=none) (x11:=none) (bU:=H) (kc:=H.length) p.hp p.B.okp.1 p.hw hw (ay _) low.1 low.2.1 (1+min l.length 16 / 8) (H:=H++ [.list []]) (us:= []) (a:=0) (x12:=none) (p.W.hD.keep (ok:=all) Keep.app trivial trivial) Keep.app aV (λzz m=>nomatch m) (by show 0+_<=_;exact(bP.mp (eC [] [_,_] 0 (.ic (aK (aI 0) (aK (aI 1) ai))) (.ic (aI 1000)) (.hn (f6 8 ai) az (.hn az (aI 16) .ho)) aS (ug _ _) (cF _ _)))) (by exact(bP.mp (eC [] [_,_,_] 0 (.ic (aK ai (aK (aI 1) az))) (.ic (aI 90000)) (.hn ai (aI 60000) (.hn (f6 8 az) bH (.hn bH (aI 16) .ho))) aS hτ (ug _ _) (cF _ _))))) λus H1 e1 D1 K1 hk1 hu1 hl1=>?_;have c1:=k7 (d:=199) (ls:=Dj (rL l) dk tb kp x4 x5 x6 x7 x8 x9 none none none) (pt:= .one 12) rfl (Jg (H:=H) (sc:=l) 1 0 rfl (by exact(cA ai cY [(ai,aI 63)] aS hl)) 8 16 (by decide) (by decide)) (JG (by exact(bP.mp (eC [] [_,_] 3 (.ic (eT (aK (aI 1) ai))) (.ic (aI 8)) (.hn (f6 8 ai) az (.hn az (aI 16) .ho)) aS (ug _ _) (cF _ _))))) e1;have p1:PL n kp H1 dk sc tb rw dc _ es t ws:=p.draw (K1.below λk h o=>⟨h,o⟩) D1;have l1:us.length<=3:=by erw [hl1];show 0+_<=_;exact(bP.mp (eC [] [_,_] 7 (.ic (aK (aI 0) (aK (aI 1) ai))) (.ic (aI 3)) (.hn (f6 8 ai) az (.hn az (aI 16) .ho)) aS (ug _ _) (cF _ _)))
 obtain⟨xs,f1⟩:=F2.ex (Q:=Iw n kp H1 es t) λu m=>by refine gz (p1.hi u (hu1 u m)) λki x e q=>?_;exact kX x ki e q
 have low1:=p1.W.low;have dkn:dk<n:=p.B.dk;have kcn:H.length<H1.length:=bx hk1;refine uc (D6 (v0:=rL l) (tb:=tb) (x4:=x4) (x5:=x5) (x6:=x6) (x7:=x7) (x8:=x8) (x9:=x9) (x10:=some (.ref H.length)) (x11:=none) (kd:=H1.length) dkn hk1 nc (ay _) low1.1 low1.2.1 f1 0 (H:=H1++ [.list []]) (ps:= []) (x12:=none) rfl (D1.keep (ok:=all) Keep.app trivial trivial) Keep.app aV (by show 0+_<=_;exact(cA (aK (aI 0) ai) (aI 1000) [(ai,aI 3)] aS l1)) (by exact(gn (aK (aK ai (aK (aI 1) az)) bH) (aI 90000) [(bH,aI 3),((aK (aI 0) (aK (aI 1) az)),bH),(bH,aI 3),(ai,aI 60000)] aS l1 (lz hl1) l1 hτ))) λts H2 f2 e2 K2 hk2 D2=>?_;have c2:=k7 (d:=199) (ls:=Dj (rL l) dk tb kp x4 x5 x6 x7 x8 x9 (some (.ref H.length)) none none) (pt:= .one 12) (a:= .v 10) rfl (ah rfl) (jw hk1) e2;have p2:PL n kp H2 dk sc tb rw dc _ es t ws:=p1.draw (K2.below λk h o=>⟨h,o⟩) D2;rw[fN]at hk2;have sq:=GV f2;have lx:xs.length<=3:=by erw [<- f1.len];exact l1
 have lt:ts.length<=3:=by erw [<- f2.len];exact lx
 refine jX (c3 (d:=198) (H:=H2)) λrw2 dc2 H3 e3 T3 n1 n2 K3=>?_;have p3:=p2.keep K3 λzz h=>h;have hk3:=K3.at_ _ _ (bx hk2) hk2;have fl:ts.flatten.length<=180:=by have:=sq.2;lia
 have j:=oV (d:=199) (ls:=Dj (rL l) dk tb kp x4 x5 x6 x7 (some (.ref H2.length)) x9 (some (.ref H.length)) (some (.ref H1.length)) none) (a:= .v 11) (ah rfl) hk3 (by exact(cA ai cY [(ai,aI 3)] aS lt)) (by exact(cA ai cY [(ai,aI 180)] aS fl));have tx1:Re 199 (Dj (rL l) dk tb kp x4 x5 x6 x7 (some (.ref H2.length)) x9 (some (.ref H.length)) (some (.ref H1.length)) none) H3 (.o .add (.o .add (.lit (.str [32])) (.meth (.lit (.str [])) 6 [(.v 11)])) (.lit (.str [59,41]))) (.str ([32]++(ts.flatten++ [59,41])),H3):=by
  erw [<- aB]
  exact bT (bT aA j (d9 (by show 1+_<=_;exact(cA (aK (aI 1) ai) cY [(ai,aI 180)] aS fl)))) aA (d9 (by erw [ag];show 1+_+2<=_;exact(cA (aK (aK (aI 1) ai) (aI 2)) cY [(ai,aI 180)] aS fl)))
 refine w3 (RP (d:=175) (ys:=xs) T3 (t:= [32]++(ts.flatten++ [59,41])) (by erw [ag,ag];show 1+(_+2)<=_;exact(cA (aK (aI 1) (aK ai (aI 2))) cY [(ai,aI 180)] aS fl)) (sq.1.pass (vR rfl (by decide) pF)) (by exact(cA ai cY [(ai,aI 3)] aS lx))) λkl ws2 H4 es4 e4 T4 hk4 r4 K4=>?_;have K24:Keep (· <H2.length) H2 H4:=K3.trans (K4.weak λi o=>(eD (ao o K3.len) (aE (ao o n1)) (aE (ao o n2))));have p4:=p2.keep K24 λzz h=>h;have good:∀x∈xs,x.good/\sz x<=147/\dp x<=16:=λx m=>by
  obtain⟨u,_,ki,_,q⟩:=f1.mem x m
  have h1:=q.len
  have h2:=q.dp
  have h3:=z5 x q.g
  exact eD q.g (by exact(bF ai (aI 147) [(bh,f6 3 az),(az,aI 49),(az,aI 49),(az,aI 49)] aS h3.2.2 h1 h1 h1)) (by exact(bF ai (aI 16) [(ai,f6 2 az),(az,aI 8),(az,aI 8)] aS h2 ht ht))
 have f4:=(r4.f2).with good;refine dt (sN (v0:=rL l) (dk:=dk) (tb:=tb) (kp:=kp) (x4:=x4) (x5:=x5) (x6:=x6) (x7:=x7) (x8:=some (.ref H2.length)) (x9:=some (.ref kl)) (x10:=some (.ref H.length)) (x11:=some (.ref H1.length)) (a:= .call 125 [(.v 12),(.v 8)]) (kd:=H4.length) hk4 (ay _) f4 (fun{u x H} q K=>by
  refine aM ((vL T4 x q.2.1 (by exact(cA ai (aI 900000) [(ai,aI 147)] aS q.2.2.1))).1 (e:=199) (by exact(cA (aK ai (aI 2)) (aI 199) [(ai,aI 147)] aS q.2.2.1)) q.1 (K.below λi h zz=>h)) λH' e K'=>?_
  exact bI H' (bj (bW rfl (bW rfl aq)) e) K') 0 (H:=H4++ [.list []]) (ps:= []) (x12:=none) rfl Keep.app aV (by erw [r4.1];show 0+_<=_;exact(cA (aK (aI 0) ai) (aI 1000) [(ai,aI 3)] aS lx))) λH5 e5 K5 hk5=>?_
 rw[fN]at hk5;have c5:=k7 (d:=199) (ls:=Dj (rL l) dk tb kp x4 x5 x6 x7 (some (.ref H2.length)) (some (.ref kl)) (some (.ref H.length)) (some (.ref H1.length)) none) (pt:= .one 12) (a:= .v 9) rfl (ah rfl) (jw hk4) e5;have p5:=p4.keep K5 λzz h=>h;have K15:Keep (λk=>k<H1.length/\k≠dk) H1 H5:=K2.trans ((K24.weak λi o=>ao o.1 K2.len).trans (K5.weak λi o=>ao o.1 (aj K2.len K24.len)));have hh:y3 n kp H1 (λk=>k<H1.length/\k≠dk):=λk c e o zz=>⟨bx e,p1.hasd k c e o⟩;have f5:F2 (λu x=>Iw n kp H5 es t u x/\x.good/\sz x<=147/\dp x<=16) us xs:=(f1.imp λu x q=>by refine aM q λki e q=>?_;exact bI ki e (q.move K15 hh .refl)).with good;refine dt (sN (v0:=rL l) (dk:=dk) (tb:=tb) (kp:=kp) (x4:=x4) (x5:=x5) (x6:=x6) (x7:=x7) (x8:=some (.ref H2.length)) (x9:=some (.ref kl)) (x10:=some (.ref H.length)) (x11:=some (.ref H1.length)) (a:= .call 125 [(.idx (.v 12) (.lit (.int 0))),(.v 2)]) (kd:=H5.length) (K15.at_ _ _ ⟨kcn,nc⟩ hk1) (ay _) f5 (fun{u x H} q K=>by
  refine vr q λxq1 g hz zz=>?_;refine aM xq1 λki xq2 q2=>?_;subst xq2
  refine aM (q2.it) λv hv r=>?_
  refine aM ((vL (n:=n) p5.W.hT x g (by exact(cA ai (aI 900000) [(ai,aI 147)] aS hz))).1 (e:=199) (by exact(cA (aK ai (aI 2)) (aI 199) [(ai,aI 147)] aS hz)) (r.mono (λk c o e=>⟨o.1,e⟩) x v) (K.below λi h zz=>h)) λH' e K'=>?_
  exact bI H' (bj (ak (dD (ah rfl) aA (fi (i:=0) (K.at_ _ _ (bx hv) hv) fO rfl)) (bW rfl aq)) e) K') 0 (H:=H5++ [.list []]) (ps:= []) (x12:=none) rfl Keep.app aV (by show 0+_<=_;exact(cA (aK (aI 0) ai) (aI 1000) [(ai,aI 3)] aS l1))) λH6 e6 K6 hk6=>?_
 rw[fN]at hk6;have c6:=k7 (d:=199) (ls:=Dj (rL l) dk tb kp x4 x5 x6 x7 (some (.ref H2.length)) (some (.ref kl)) (some (.ref H.length)) (some (.ref H1.length)) none) (pt:= .one 12) (a:= .v 10) rfl (ah rfl) (jw (K15.at_ _ _ ⟨kcn,nc⟩ hk1)) e6;have eq:iI H6 .eq (.ref H4.length) (.ref H5.length)=some true:=Fj (K6.at_ _ _ (bx hk5) hk5) hk6 (Bg (m:=51) λx m=>(DY x (good x m).1).1.le (by have:=(good x m).2.2;exact(cA (aK (f6 3 ai) (aI 3)) (aI 51) [(ai,aI 16),(ai,aI 16),(ai,aI 16)] aS this this this))) (by decide);exact uj _ H6 (cL c1 rfl (cL c2 rfl (cL (gH aq rfl e3) rfl (aC (iU (bj (ak tx1 (ak (ah rfl) aq)) e4) (eu rfl)) (eQ (kL (dy c5 c6 eq)))))))
end
end
section
mutual
variable{c:Cell}
variable{n kp t:Nat}{H H':Hp}{dk sc tb rw dc τ k1 ki:Nat}{es es':List (List Nat×AV)}{x:D}{ws:List AV}{l:List Int}{v:AV}
def D8(r:gJ (Nw n H es) H v x):gJ (Pn n H.length (H++ [c]) es) (H++ [c]) v x:=
 r.mono (λk c' o e=>by
  have e':Hk (H++ [c]) k c':=bD e;exact⟨⟨⟨λc2 g=>by cases e'.symm.trans g;exact o.1 _ e,λi s g=>by cases e'.symm.trans g;exact o.2 i s e⟩,aE (bx e)⟩,e'⟩) x v
def sX(hk:Hk H ki (ui v x))(r:gJ (Nw n H es) H v x)(hn:n<=ki)(g:x.good)(ha:x.atom=true):PIt n H.length (H++ [c]) es 0 ki x:=
 ⟨⟨v,bD hk,D8 r⟩,aE (bx hk),hn,g,aj (tT x g ha).2.1 (by decide),by erw [BJ x ha];exact ay _⟩
def Cx{q:Prop}(hl:l.length<=63)(kk:∀{n kp dk sc tb rw dc τ es t ws x4 x5 x6 x7 x8 x9 H},PL n kp H dk sc tb rw dc τ es t ws->ws.length<=1000->τ<=60000->t<=8->(∀{o:Fl×Ls×Hp},gI 199 (Dj (rL l) dk tb kp x4 x5 x6 x7 x8 x9 none none none) H (Ff.body.drop 4) o->gI 199 [some (rL l),none,none,none,none,none,none,none,none,none,none,none,none,none] [] Ff.body o)->q):q:=by
 refine jX (RD (d:=198) (H:= []) (sc:=l) (by exact(cA ai cY [(ai,aI 63)] aS hl))) λdk sc H1 e1 D1 zz zy zx=>?_;refine jX (c3 (d:=198) (H:=H1)) λrw dc H2 e2 T2 n1 n2 K2=>?_;obtain⟨xq1,zs,hsc⟩:=D1.cells;refine ub xq1 λz1 z2 z3 hdk=>?_;have W2:LW H2 dk sc H1.length rw dc 0 []:=⟨D1.keep K2 (bx hdk) (bx hsc),T2,aE (ao (bx hdk) n1),aE (ao (bx hsc) n1)⟩;have low:=W2.low;refine w6 (L9 (d:=195) W2 (by exact eF ..)) λk1 x1 H3 es1 e3 M1 a1=>?_;refine w6 (L9 (d:=195) M1.W (by exact eF ..)) λk2 x2 H4 es2 e4 M2 a2=>?_;refine dt (M1.it) λv1 i1 o1 r1=>?_;refine dt (M2.it) λv2 i2 o2 r2=>?_;have hh:iD H2.length H3 (Hl dk rw dc):=M1.W.has low.1 low.2.2.2.1 low.2.2.2.2;have i1':=M2.K.at_ _ _ (hh _ _ i1 (.inl o1)) i1;have r1':=r1.move M2.K hh M2.sb (ay _);have r2':gJ (Nw H2.length H4 es2) H4 v2 x2:=r2.move (ok:=all) .refl iD.lt .refl M1.K.len;have K5:Keep all H4 (H4++ [ui (.obj 0) .empty]):=Keep.app;have n4:H2.length<=H4.length:=aj M1.K.len M2.K.len;have W5:=M2.W.more K5;have B:LBase H2.length (H4++ [ui (.obj 0) .empty]).length dk sc rw dc:=⟨low.1,low.2.1,low.2.2.2.1,low.2.2.2.2,aj n4 K5.len⟩;have p0:PL H2.length (H4++ [ui (.obj 0) .empty]).length (H4++ [ui (.obj 0) .empty]++ [.list [.ref k1, .ref k2, .ref H4.length]]) dk sc H1.length rw dc (0+7+7) es2 0 [.ref k1, .ref k2, .ref H4.length]:=
  ⟨W5.more Keep.app,B,aV,λw m=>by
   cases m with
   | head=>exact kX k1 x1 rfl (sX (bD i1') (r1'.move K5 iD.lt .refl (ay _)) o1 M1.g a1)
   | tail zz m=>cases m with
    | head=>exact kX k2 x2 rfl (sX (bD i2) (r2'.move K5 iD.lt .refl (ay _)) (aj M1.K.len o2) M2.g a2)
    | tail zz m=>cases m with
     | head=>exact kX H4.length .empty rfl (sX (v:= .obj 0) aV rfl n4 trivial rfl)
     | tail zz m=>exact(nomatch m),k9 _⟩
 have hN:2+min l.length 20 / 4<8:=by exact(bP.mp (eC [] [_,_] 3 (.ic (eT (aK (aI 2) ai))) (.ic (aI 8)) (.hn (f6 4 ai) az (.hn az (aI 20) .ho)) aS (ug _ _) (cF _ _)))
 refine w6 (uz (v0:=rL l) (a:=0) (x4:=none) (2+min l.length 20 / 4) p0 (by show 3+_<=_;exact(cA (aK (aI 3) (aK (aI 2) ai)) (aI 1000) [((eT (aK (aI 2) ai)),aI 8)] aS hN)) (by exact(bP.mp (eC [] [_,_] 0 (.ic (aK (aK (aK (aI 0) (aI 7)) (aI 7)) (f6 10 (aK (aI 2) ai)))) (.ic (aI 60000)) (.hn (eT (aK (aI 2) ai)) (aI 8) (.hn (eT (aK (aI 2) ai)) (aI 8) (.hn (f6 4 ai) az (.hn (f6 4 ai) az (.hn az (aI 20) (.hn az (aI 20) .ho)))))) aS hN hN (ug _ _) (ug _ _) (cF _ _) (cF _ _))))) λws es7 x4 H7 e7 p7 l7=>?_;obtain⟨wa,ha⟩:∃w,ws[0]? =some w:=⟨_,bq p7.hw⟩;obtain⟨wi,wb,hb⟩:∃us w,ws=us++ [w]:=by
  have hne:ws≠ []:=λe=>by have:=p7.hw;rw[e]at this;exact nomatch this
  exact uj ws.dropLast (ws.getLast hne) ((List.dropLast_concat_getLast hne).symm)
 refine gz (p7.hi wa (bN ha)) λka xa xq2 qa=>?_;subst xq2;refine gz (p7.hi wb (by erw [hb];exact bC _ bl)) λkb xb xq3 qb=>?_;subst xq3;have K8:Keep all H7 (H7++ [.list [.ref ka, .ref kb]]):=Keep.app;have p8:=p7.more K8;have qa8:=qa.move K8 (λzz zy zx zw zv=>trivial) .refl;have qb8:=qb.move K8 (λzz zy zx zw zv=>trivial) .refl;refine aM (qa8.it) λva ca ra=>?_;have da:=qa8.dp;have db:=qb8.dp;refine B3 (check (v0:=rL l) (x4:=x4) (x8:=none) (x9:=none) p8 ra qa8.g qa8.len (by exact(bF ai (aI 20) [(ai,(f6 2 (aK (aI 0) (aK (aI 2) az)))),((eT (aK (aI 2) az)),aI 8),((eT (aK (aI 2) az)),aI 8)] aS da hN hN))) λx8 x9 H9 e9 p9 K9=>?_;have qb9:=qb8.move K9 (λk c e zz zy=>bx e) .refl;refine aM (qb9.it) λvb cb rb=>?_;refine B3 (check (v0:=rL l) (x4:=x4) (x8:=x8) (x9:=x9) p9 rb qb9.g qb9.len (by exact(bF ai (aI 20) [(ai,(f6 2 (aK (aI 0) (aK (aI 2) az)))),((eT (aK (aI 2) az)),aI 8),((eT (aK (aI 2) az)),aI 8)] aS db hN hN))) λx8' x9' H10 e10 p10 K10=>?_;have hz8:Hk (H7++ [Cell.list [AV.ref ka,AV.ref kb]]) (H7.length) (.list [.ref ka, .ref kb]):=aV;have hz9:=K9.at_ _ _ (bx hz8) hz8;have hz10:=K10.at_ _ _ (bx hz9) hz9;have s1:Rs 199 [some (rL l),none,none,none,none,none,none,none,none,none,none,none,none,none] [] (.aS (.U [(.v 1),(.v 2)]) (.U [(.call 124 [(.v 0),(.lit (.int 30))]),(.new 2 [])])) (.next,[some (rL l),some (.ref dk),some (.ref H1.length),none,none,none,none,none,none,none,none,none,none,none],H2):=iU (gR (ak (bj (bW rfl (gS aq)) e1) (ak (gH aq rfl e2) aq)) (aN (ab rfl))) (mr (dj (eu rfl) (dj (eu rfl) jF)));have s2:=iU (d:=199) (ls:= [some (rL l),some (.ref dk),some (.ref H1.length),none,none,none,none,none,none,none,none,none,none,none]) (t:= .v 3) (hZ (a:= .call 127 [(.v 1),(.v 2)]) (b:= .call 127 [(.v 1),(.v 2)]) (c:= .list [(.lit (.obj 0)),(.lit (.str [40,41])),(.lit (.str [40,41]))]) (bj (bW rfl (bW rfl aq)) e3) (bj (bW rfl (bW rfl aq)) e4) (hZ aA aA aA)) (eu rfl);have s3:=mN (Jg (H:=H4++ [ui (.obj 0) .empty]++ [.list [.ref k1, .ref k2, .ref H4.length]]) (ls:=PP (rL l) dk H1.length (H4++ [ui (.obj 0) .empty]).length none) (sc:=l) 2 0 rfl (by exact(cA ai cY [(ai,aI 63)] aS hl)) 4 20 (by decide) (by decide)) (JG hN) e7;have s4:Rs 199 (PP (rL l) dk H1.length (H4++ [ui (.obj 0) .empty]).length x4) H7 (.for (.many [5,6,7]) (.list [(.idx (.v 3) (.lit (.int 0))),(.idx (.v 3) (.neg (.lit (.int 1))))]) Ta) (.next,Qt (rL l) dk H1.length (H4++ [ui (.obj 0) .empty]).length x4 (some vb) (some (.str (tx true xb))) (some (.str (tx false xb))) x8' x9',H10):=
  mN (fK (ak (dD (ah rfl) aA (fi (i:=0) p7.hp (by exact(cA ai cY [(ai,aI 1000)] aS l7)) ha)) (ak (dD (ah rfl) (p6 aA) (pR (by erw [<- hb];exact p7.hp) (by have:=congrArg jf hb;rw[ag]at this;have h1:[AV.ref kb].length=1:=rfl;exact(bF bh cY [((aK ai (eT (aI 0))),az),(az,aI 1000)] aS (lz this) l7)))) aq)) (aN (ab rfl))) (jw hz8)
   (fq (gj (fj hz8)) (bo (fj ca) rfl) e9 (fq (gj (fj hz9)) (bo (fj cb) rfl) e10 (iH (gj (fj hz10)))));exact kk p10 l7 (by exact(bP.mp (eC [] [_,_] 0 (.ic (aK (aK (aK (aI 0) (aI 7)) (aI 7)) (f6 10 (aK (aI 2) ai)))) (.ic (aI 60000)) (.hn (eT (aK (aI 2) ai)) (aI 8) (.hn (eT (aK (aI 2) ai)) (aI 8) (.hn (f6 4 ai) az (.hn (f6 4 ai) az (.hn az (aI 20) (.hn az (aI 20) .ho)))))) aS hN hN (ug _ _) (ug _ _) (cF _ _) (cF _ _)))) (by exact(cA (aK (aI 0) (aK (aI 2) ai)) (aI 8) [((eT (aK (aI 2) ai)),aI 8)] aS hN)) λh=>aC s1 (aC s2 (aC s3 (aC s4 h)))
def EH(hl:l.length<=63):∃H',aQ 200 [] 130 [rL l] (.bool true,H'):=by
 refine Cx hl fun{n kp dk sc tb rw dc τ es t ws x4 x5 x6 x7 x8 x9 H} p h1 h2 h3 go=>?_;refine y5 (HE (x4:=x4) (x5:=x5) (x6:=x6) (x7:=x7) (x8:=x8) (x9:=x9) p h1 h2 h3 hl) λls' H' e=>?_;exact⟨H',bz (F:=Ff) rfl rfl rfl (go e)⟩
end
end
end Mine.Internal
end
section
open PySem PySem.Calls PyProof.Rows PySem.W
namespace Mine.Internal
mutual
abbrev xJ(prog:Program)(w:World)(K:Frag)(h:Heap)(p:Program)(loose:List Str)(mg mb:Str->Option Value):Wd:={prog,w,K,base:=h,p,loose,mg,mb,fa:=CN K,ca:=yI K,oa:=Cr K,glob:=tH,nm:=Di,P:=P}
end
section
mutual
variable{u:Value}{a C:Addr}{B:BgT}{ρ:List Addr}{x:Str}{c:Nat}{f:AV->Value->Bool}{W:Wd}{vs:List AV}
variable{prog:Program}{w:World}{K:Frag}{h:Heap}{p:Program}{loose:List Str}{mg mb:Str->Option Value}
def jP{v:Value}(e:HW K x v=true):Gl (xJ prog w K h p loose mg mb) x v:=by
 cases jK.mp e with
 | inl e=>exact .own (beq_iff_eq.mp e)
 | inr e=>
  have e1:=ae.mp e;have e2:=ae.mp e1.1;exact .builtin (beq_iff_eq.mp e2.1) (beq_iff_eq.mp e2.2) (bne_iff_ne.mp e1.2)
def LP:(CN K).length=131:=by unfold CN;erw [aL];rfl
def FE:(yI K).length=25:=by unfold yI;erw [aL];rfl
def u0{i:Nat}(hi:cg i 131=true):(CN K)[i]? =some (mJ K i):=by
 unfold mJ
 erw [fc,(bq (by erw [LP];exact cM.mp hi))];rfl
def mq(e:(xJ prog w K h p loose mg mb).cat c=some C):c∈jn/\jS K c=C:=by
 have t:∀c,c<25->(dn 11 c && dn c 15)=false->c∈jn:=by decide
 have e':cond (dn 11 c && dn c 15) none (yI K)[c]? =some C:=e;cases q:(dn 11 c && dn c 15)with
 | true=>rw[q]at e';exact nomatch e'
 | false=>
  rw[q]at e';have e2:(yI K)[c]? =some C:=e';have l:=(aU.mp e2).1;rw[FE]at l;refine⟨t c l q,?_⟩;unfold jS
  erw [fc,e2];rfl
def FB(e:c∈jn):(xJ prog w K h p loose mg mb).cat c=some (jS K c):=by
 have t:∀c∈jn,c<25/\(dn 11 c && dn c 15)=false:=by decide
 have q:=t c e;show cond (dn 11 c && dn c 15) none (yI K)[c]? =_
 erw [q.2]
 show(yI K)[c]? =_;unfold jS
 erw [fc,(bq (by erw [FE];exact q.1))];rfl
def pj(h:B5 u=some a):u= .ref a:=by cases u using gP with | ref b=>exact congrArg _ (af h) | _=>exact dA h
def Dr{a:String}(h:Qg u=some a):u= .type a:=by cases u using gP with | type b=>exact congrArg _ (af h) | _=>exact dA h
def Dt{a:Bool}(h:Jf u=some a):u= .bool a:=by cases u using gP with | bool b=>exact congrArg _ (af h) | _=>exact dA h
def Gx{a:Int}(h:Nl u=some a):∃t,u= .int a t:=by cases u using gP with | int b t=>exact⟨t,congrArg (Value.int · t) (af h)⟩ | _=>exact dA h
def Gw{a:Str}(h:Nk u=some a):∃t,u= .str a t:=by cases u using gP with | str b t=>exact⟨t,congrArg (AG · t) (af h)⟩ | _=>exact dA h
def w7(h:Ds u=true):u= .none:=by cases u using gP with | none=>rfl | _=>exact ly h
def C1{u:Data}(h:Fo u=true):u= .plain:=by cases u using Data.casesOn with | plain=>rfl | _=>exact ly h
def Fq{u:Data}{a:Array DictEntry×Nat}(h:JU u=some a):u= .dict a.1 a.2:=by cases u using Data.casesOn with | dict b t=>exact af h ▸rfl | _=>exact dA h
def BP{u:Data}{a:Array Value×Nat}(h:L6 u=some a):u= .seq a.1 a.2:=by cases u using Data.casesOn with | seq b t=>exact af h ▸rfl | _=>exact dA h
def Fp{u:Data}{a:FuncData}(h:JT u=some a):u= .func a:=by cases u using Data.casesOn with | func b=>exact congrArg _ (af h) | _=>exact dA h
def Fe{u:FuncBody}{a:List Stmt}(h:JM u=some a):u= .stmts a:=by cases u using FuncBody.casesOn with | stmts b=>exact congrArg _ (af h) | _=>exact dA h
def tw(e:uU K C a=true)(X:K.In h):∃dx es n,h.get? a=some (instObj C dx)/\h.get? dx=some (dictOf es n):=by
 obtain⟨r,e⟩:=jT.mp e;refine cK e λo q1 e=>cK e λdx q2 e=>cK (hP e).2 λp q3 e'=>?_;have a1:=ae.mp (hP e).1;have a2:=ae.mp a1.2;have b1:=ae.mp (hP e').1;have b2:=ae.mp b1.2;refine Ad dx r.1.toList r.2 ((X _ _ q1).trans (congrArg some ?_)) ((X _ _ q3).trans (congrArg some ?_))
 ·show Obj.mk o.cls o.dict o.data o.slots=_
  erw [pj (beq_iff_eq.mp a1.1),q2,C1 a2.1,beq_iff_eq.mp a2.2];rfl
 ·show Obj.mk p.cls p.dict p.data p.slots=_
  erw [Dr (beq_iff_eq.mp b1.1),jq.mp b2.1,Fq (hP e').2,beq_iff_eq.mp b2.2];rfl
def FN(hf:∀v u,f v u=true->VR W B ρ v u):∀{us:List Value},FO f vs us=true->VRs W B ρ vs us:=by
 induction vs with
 | nil=>intro us e;cases us using aw with | nil=>exact .nil | cons zz zy=>exact ly e
 | cons x r ih=>intro us e;cases us using aw with | nil=>exact ly e | cons u s=>exact .cons (hf x u (ae.mp e).1) (ih (ae.mp e).2)
def xq(X:K.In h)(hB:∀a o,h.get? a=some o->B a=some o){t:String}(hf:∀v u,f v u=true->VR W B ρ v u)(e:zC K t (FO f vs) a=true){p:Prop}
  (k:∀o its m,B a=some o->o.cls= .type t->o.data= .seq its m->VRs W B ρ vs its.toList->p):p:=by
 refine aM ((iz _ _).mp e) λs e q=>?_;exact cK e λo q1 e=>k o s.1 s.2 (hB _ _ (X _ _ q1)) (Dr (beq_iff_eq.mp (hP e).1)) (BP (hP e).2) (FN hf q)
def IQ(X:K.In h)(hB:gw (xJ prog w K h p loose mg mb) B)(n:Nat):∀(v:AV) (u:Value),P7 K (Cr K) n v u=true->VR (xJ prog w K h p loose mg mb) B ρ v u:=by
 induction n with
 | zero=>exact λzz zy e=>ly e
 | succ n ih=>
  intro v u e
  cases v using AV.casesOn with
  | none=>erw [w7 e];exact .none
  | bool b=>erw [Dt (beq_iff_eq.mp e)];exact .bool
  | int i=>exact(Gx (beq_iff_eq.mp e)).elim λt q=>q ▸.int
  | str s=>exact(Gw (beq_iff_eq.mp e)).elim λt q=>q ▸.str
  | obj i=>
   refine aM ((iz _ _).mp e) λa q e=>?_
   erw [pj q];exact .obj (beq_iff_eq.mp e)
  | U vs=>
   refine aM ((iz _ _).mp e) λa q e=>?_
   erw [pj q];exact xq X hB ih e λo its m h1 h2 h3 h4=> .U h1 ⟨h2,m,h3⟩ h4
  | a vs=>
   refine aM ((iz _ _).mp e) λa q e=>?_
   erw [pj q];exact xq X hB ih e λo its m h1 h2 h3 h4=> .a h1 ⟨h2,m,h3⟩ h4
  | _=>exact ly e
def Oq(X:K.In h){g:Gv}(e:QO K x g=true):MU (xJ prog w K h p loose mg mb) x g:=by
 cases g with
 | fn i=>
  have e1:=ae.mp e;have e2:=ae.mp e1.1;exact eH _ (u0 e2.1) (jP e2.2) e1.2
 | cls i=>
  have e1:=ae.mp e;have e2:=ae.mp e1.1;exact eH _ (FB (fu.mp e2.1)) (jP e2.2) e1.2
 | bi b=>exact jP e
 | rev=>exact jP e
 | enum=>exact jP e
 | isinst=>exact jP e
 | ty k=>cases k with
  | bool=>exact jP e
  | int=>exact jP e
  | cls c=>exact nomatch e
 | val v=>
  refine aM ((iz _ _).mp e) λu q e'=>?_;exact cK q λo q1 q2=>(bI u (.own (q1.trans (congrArg some q2))) (λB ρ hB=>IQ X hB 6 v u e'))
def Lg:∀(i j:Nat) (x:Str),Di[i]? =some x->Di[j]? =some x->i=j:=by
 have nd:Di.Nodup:=by decide+kernel
 exact λi j x h1 h2=>by
  obtain⟨a1,b1⟩:=aU.mp h1
  obtain⟨a2,b2⟩:=aU.mp h2
  rcases Nat.lt_trichotomy i j with l | l | l
  ·exact absurd (b1.trans b2.symm) (List.pairwise_iff_getElem.mp nd i j a1 a2 l)
  ·exact l
  ·exact absurd (b2.trans b1.symm) (List.pairwise_iff_getElem.mp nd j i a2 a1 l)
def O3{fd:FuncData}{dfl:List AV}(e:O4 K fd=some dfl):(fd.defaults= .none/\dfl= [])\/∃T oT its n,fd.defaults= .ref T/\K.lookup T=some oT/\oT.data= .seq its n/\oW (Cr K) its.toList=some dfl:=
 nw e (λq e=> .inl ⟨w7 q,(af e).symm⟩) λzz e=>cK e λT q1 e=>cK e λo q2 e=>cK e λs q3 e=> .inr (QH T o s.1 s.2 (pj q1) q2 (BP q3) e)
abbrev Bz:S->Bool
 | .fail=>true
 | _=>false
abbrev ER:List S->Bool
 | [s]=>Bz s
 | _=>false
def Aa{s:S}(h:Bz s=true):s= .fail:=by cases s using S.casesOn with | fail=>rfl | _=>exact ly h
def Cz{s:List S}(h:ER s=true):s= [.fail]:=by
 rcases s with _ | ⟨x,_ | ⟨y,l⟩⟩
 ·exact ly h
 ·erw [Aa h];rfl
 ·exact ly h
def Ow(X:K.In h){f:Nat}{F:Fn}(ha:(CN K)[f]? =some a)(e:yt K a=some F):∃a fd body,(xJ prog w K h p loose mg mb).fa[f]? =some a/\FnOk (xJ prog w K h p loose mg mb) a F fd body:=
 cK e λo q1 e=>cK e λfd q2 e=>cK e λbody q3 e=>cK e λdfl q4 e=>nw e (λg e=>by
  have g1:=ae.mp g;have g2:=ae.mp g1.1;have g3:=ae.mp g2.1;have g4:=ae.mp g3.1;have g5:=ae.mp g4.1;have g6:=ae.mp g5.1;have e:=(af e).symm;subst e;exact Ad a fd body ha (⟨⟨o.cls,o.dict,o.slots,q1.trans (congrArg (λd=>some (Obj.mk o.cls o.dict d o.slots)) (Fp q2))⟩,Fe q3,aj (ab g6.1) (iB (aL _).symm),AO.mp g6.2,beq_iff_eq.mp g5.2,beq_iff_eq.mp g4.2,g3.2,g2.2,g1.2,O3 q4,rfl⟩)) λzz e=>dA e
def Iq{F:Fn}(l:List Fn):∀i j:Nat,pC.contains (i+j)=false->l[j]? =some F->(PY i l)[j]? =some (some F):=by
 induction l with
 | nil=>exact λi j zz h=>nomatch h
 | cons f r ih=>
  intro i j q h
  cases j using bM with
  | zero=>erw [<- af h];show some (cond (pC.contains i) none (some f))=_;erw [(show pC.contains i=false from q)];rfl
  | succ j=>exact ih (i+1) j ((gr i 1 j).symm ▸(f9 i j 1 ▸q)) h
def Ov(X:K.In h)(e:xF K=Am){f:Nat}{F:Fn}(hF:P.fns[f]? =some F):F.body= [.fail]\/∃a fd body,(xJ prog w K h p loose mg mb).fa[f]? =some a/\FnOk (xJ prog w K h p loose mg mb) a F fd body:=by
 have len:P.fns.length=131:=rfl;have hf:f<131:=by erw [<- len];exact(aU.mp hF).1
 have sk:(pC.all λi=>(P.fns[i]?).any λF=>ER F.body)=true:=rfl;cases q:pC.contains f with
 | true=>
  have:=aT.mp sk f (fu.mp q);rw[hF]at this;exact .inl (Cz this)
 | false=>
  right;have e1:=congrArg (λl=>l[f]?) e;have r:(cS 131)[f]? =some f:=List.getElem?_range hf;have e2:(xF K)[f]? =some (yt K (mJ K f)):=by unfold xF;erw [ey,r];show some (cond (pC.contains f) none _)=_;erw [q];rfl
  have e3:Am[f]? =some (some F):=Iq Ia 0 f ((ji f).symm ▸q) hF;have e4:yt K (mJ K f)=some F:=af (e2.symm.trans (e1.trans e3));exact Ow X (u0 (cM.mpr hf)) e4
set_option tactic.hygienic true in
theorem PD(X:K.In h)(T:TopRead p loose mg mb h)(e:PN K=true)(e':xF K=Am):(xJ prog w K h p loose mg mb).Ok:=by
 have e1:=ae.mp e;have e2:=ae.mp e1.1;have e3:=ae.mp e2.1;have e4:=ae.mp e3.1;have e5:=ae.mp e4.1;have eo:=ae.mp e5.1;have ei:=ae.mp eo.1;have es:=ae.mp e2.2;have cl:∀c∈jn,wz K c=true:=λc m=>aT.mp e4.2 c m;have two:∀c c',c≠c'->c∈jn->c'∈jn->kin_not K (jS K c) (jS K c')=true:=λc c' n m m'=>by
  have:=aT.mp (aT.mp e3.2 c m) c' m'
  cases jK.mp this with
  | inl q=>exact absurd (aW q) n
  | inr q=>exact q
 have P2:∀{i:Nat} {a:Addr},(Cr K)[i]? =some a->uU K (jS K 0) a=true:=fun{i a} q=>by
  match i,q with
  | 0,q=>cases q;exact ei.1
  | 1,q=>cases q;exact ei.2
  | n+2,q=>exact nomatch q
 have all:∀{c:Nat} {Cc:Cls},c∈jn->P.clss[c]? =some Cc->(Cc.flds.all λf=>match Di[f]? with | some n=>Ai K (jS K c) n | none=>true)=true/\(Cc.meths.all fun(m,f)=>cg f 131 && (match Di[m]? with | some n=>Bs K (jS K c) n (mJ K f) | none=>true))=true/\makesIn K (jS K c)=true/\findIn K (.ref (jS K c)) "__init__"=some (some (.ref (mJ K Cc.init)))/\typeIn K (.ref (mJ K Cc.init))=some (.type "function")/\cg Cc.init 131=true:=fun{c Cc} m hc=>by
  have q:=(ae.mp (cl c m)).2
  rw[hc]at q
  have q1:=ae.mp q
  have q2:=ae.mp q1.1
  have q3:=ae.mp q2.1
  have q4:=ae.mp q3.1
  have q5:=ae.mp q4.1
  exact QM q5.1 q5.2 q4.2 (beq_iff_eq.mp q3.2) (beq_iff_eq.mp q2.2) q1.2
 refine⟨⟨X,T⟩,⟨λi a q=>?_,λi j a q q'=>?_⟩,⟨Lg,λm hm=>?_,λc f C n q q1 q2=>?_,λc m f C n q q1 q2=>?_,?_⟩,⟨λc C q=>?_,λc c' C C' n q q'=>?_,λi a c q q'=>?_,beq_iff_eq.mp es.1,beq_iff_eq.mp es.2⟩,λx g q=>Oq X (aT.mp e1.2 (x,g) (eU q)),λf F hF=>Ov X e' hF,λ_ _ _ _=>trivial,λc Cc C hc q=>?_⟩
 ·refine vq (tw (P2 q) X) λdx es n h1 _=>?_;exact bI _ h1 (by simp)
 ·have ne:=bne_iff_ne.mp eo.2
  match i,j,q,q' with
  | 0,0,_,_=>rfl
  | 1,1,_,_=>rfl
  | 0,1,q,q'=>cases q;exact absurd (af q').symm ne
  | 1,0,q,q'=>cases q;exact absurd (af q') ne
  | n+2,_,q,_=>exact nomatch q
  | _,n+2,_,q'=>exact nomatch q'
 ·have t:∀m,m<=10->Di[m]? =some (Br m):=by decide+kernel
  exact t m hm
 ·obtain⟨m,xq1⟩:=mq q1;subst xq1;have q3:wU P c f=true:=q;unfold wU at q3
  split at q3
  ·rename_i Cc hc
   have:=aT.mp (all m hc).1 f (fu.mp q3);rw[show Di[f]? =some n from q2]at this;exact this
  ·exact nomatch q3
 ·obtain⟨m',xq2⟩:=mq q1;subst xq2;refine aM (cu.mp q) λCc hc hl=>?_;have:=aT.mp (all m' hc).2.1 (m,f) (eU hl);have g:=ae.mp this;have g2:=g.2;rw[show Di[m]? =some n from q2]at g2;exact bI _ (u0 g.1) g2
 ·obtain⟨o,ho⟩:=jT.mp e5.2;exact⟨o,X _ _ ho⟩
 ·obtain⟨m,xq3⟩:=mq q;subst xq3;exact(ae.mp (cl c m)).1
 ·obtain⟨m,xq4⟩:=mq q;subst xq4;obtain⟨m',xq5⟩:=mq q';subst xq5;exact two c c' n m m'
 ·have q2:P.objs[i]? =some c:=q';have hc:c=0:=by
   match i,q2 with
   | 0,q2=>exact(af q2).symm
   | 1,q2=>exact(af q2).symm
   | n+2,q2=>exact nomatch q2
  subst hc;refine vq (tw (P2 q) X) λdx es n h1 h2=>?_;exact yi _ dx es n (FB (by decide)) h1 h2
 ·obtain⟨m,xq6⟩:=mq q;subst xq6;have g:=all m hc;exact .inr ⟨g.2.2.1,_,u0 g.2.2.2.2.2,g.2.2.2.1,g.2.2.2.2.1⟩
end
end
section
mutual
variable{W:Wd}{B:BgT}{h:Heap}{us:List Value}
variable{prog:Program}{w:World}{K:Frag}{p:Program}{loose:List Str}{mg mb:Str->Option Value}{s:Shared}{A:Around}
def MQ(hB:∀b o,B b=some o->h.get? b=some o):RM W B [] [] [] h:=
 (bI ([]) (⟨hB,λzz m=>(nomatch m),λzz m=>(nomatch m), .nil, .nil⟩) .nil)
def uE{R:WRecords}{cl:Str->Option Addr}{ρ:List Addr}:∀{xs:List WData} {as:List Addr},ReadsAllW R cl h us xs as->(∀x∈xs,∃i,x= .int i)->∃l:List Int,xs=l.map .int/\VRs W B ρ (l.map .int) us:=by
 induction us with
 | nil=>intro xs as r hx;cases r;exact bI ([]) rfl .nil
 | cons u us ih=>
  intro xs as r hx;cases r with
  | cons r rs=>
   obtain⟨i,xq1⟩:=hx _ bl;subst xq1;refine aM (ih rs λx m=>hx x (bO _ m)) λl e q=>?_;cases r
   exact bI (i::l) (by erw [e];rfl) (.cons .int q)
def EI(X:K.In s.heap)(T:TopRead p loose mg mb s.heap)(e:PN K=true)(e':xF K=Am)(hA:AOk A 200){l:List Int}(hl:l.length<=63)(hv:∀ρ,VRs (xJ prog w K s.heap p loose mg mb) s.heap.get? ρ [rL l] us):
  wpAny (model prog w) A (call (.ref (mJ K 130)) us) (λv s'=>v= .bool true/\(∀b o,s.heap.get? b=some o->s'.heap.get? b=some o)/\s'.os=s.os/\s'.gens=s.gens) fh s:=by
 have W1:=PD (prog:=prog) (w:=w) X T e e';obtain⟨H',hr⟩:=EH (l:=l) hl;obtain⟨n,hn⟩:=MN hr;refine aM (((NA W1 n).call _ _ _ _ _ _ hn).1.op W1.top) λa ha op=>?_;have ea:a=mJ K 130:=af (ha.symm.trans (u0 rfl));subst ea;have hB:gw (xJ prog w K s.heap p loose mg mb) s.heap.get? :=λzz zy q=>q;refine dO (op A s.heap.get? [] [] s us hA hB (MQ λzz zy q=>q) (hv [])) (λu s' xq2=>fy xq2 λB' ρ' g R' rs q=>?_) λzz zy q=>q;exact Ae (n5 q) (λb o h=>R'.base (hB.mono g.b) b o h) rs.os rs.gens
end
end
end Mine.Internal
end
section
open PySem PySem.W PyProof.Rows
namespace Mine.Internal
mutual
def z7{xs:List WData}:WShape.hasItems [] xs .int=true->∀x∈xs,∃i,x= .int i:=by
 induction xs with
 | nil=>exact λzz zy m=>nomatch m
 | cons y ys ih=>
  intro h x m;have q:=ae.mp (show(WShape.has [] y .int && WShape.hasItems [] ys .int)=true from h);rcases aR.mp m with rfl | m
  ·have h:=q.1
   cases x using WData.casesOn with
   | int i=>exact⟨i,rfl⟩
   | _=>exact ly h
  ·exact ih q.2 x m
def Ed{args:List WData}(h:WShape.hasAll [] args [.list .int]=true):∃xs,args= [.list xs]/\∀x∈xs,∃i,x= .int i:=by
 cases args using aw with
 | nil=>exact ly h
 | cons d r=>
  cases r using aw with
  | cons a b=>exact ly (ae.mp h).2
  | nil=>
   have h:=(ae.mp h).1
   cases d using WData.casesOn with
   | list xs=>exact bI xs rfl (z7 ((jK.mp h).elim id ly))
   | _=>exact ly h
set_option backward.match.sparseCases true in
theorem G5{xs:List WData}(h:(PySem.Challenge.rw_nt0261_01.pre).holds [] {args:= [.list xs]}=true):xs.length<=63:=by
 rcases yV 63 xs.length with l | l
 ·have e:less? (.int 63) (.int (xs.length:Int))=some true:=congrArg some (decide_eq_true (fX.mpr l));have key:∀o:Option Bool,o=some true->(match (match (match qZ WData.bool o with | some (.bool b)=>some (WData.bool !b) | _=>none)with | some (.bool false)=>some (WData.bool false) | some (.bool true)=>some (.bool true) | _=>none)with | some (.bool true)=>true | _=>false)=false:=λo e=>by erw [e];rfl
  exact ly ((key _ e).symm.trans h)
 ·exact l
end
end Mine.Internal
end
section
open PySem PySem.Calls PyProof.Rows PySem.W
namespace Mine.Internal
mutual
def UA:AOk callerA 200:=⟨rfl,by decide,by decide⟩
def fin_walk{q:Program}{loose:List Str}{XP:(Str->Option Value)->Heap->Prop}{d:DefRec}{kwd:List (Str×PySem.Expr)}(hn:d.name="law"):WalkO q loose XP hkSays PySem.Challenge.rw_nt0261_01.row.toRowW d kwd (λf vs=>call f vs):=by
 intro w rJ bA mg mb G Y a o pm cd doc dV kV ho hd hcd hD hmg hg args vals as hpre hlay hrd hwl hlo;refine dt Y λK X e1 e2=>?_;have T:=topRead_of G.T;obtain⟨hs,hh⟩:=pre_splitW hpre;refine aM (Ed hs) λxs xq1 hx=>?_;subst xq1;have hl:=G5 hh;have gl:Gl (xJ PySem.Challenge.rw_nt0261_01.row.toRowW.prog w K bA.heap q (looseW q loose) mg mb) "law" (.ref (mJ K 130)):=by
  have:=(PD (prog:=PySem.Challenge.rw_nt0261_01.row.toRowW.prog) (w:=w) X T e1 e2).glob "law" (.fn 130) (show tH.lookup (aa "law")=some (Gv.fn 130)from by kernel_rfl)
  refine dt this λa ha g zz=>?_
  have:a=mJ K 130:=af (ha.symm.trans (u0 rfl))
  exact this ▸g
 rw[hn]at hmg;have ea:a=mJ K 130:=by
  cases gl with
  | own e=>exact Value.ref.inj (af (hmg.symm.trans (mg_of X T.g e)))
  | builtin e zz zy=>exact nomatch hmg.symm.trans (mg_none_of X T.g e)
 cases hrd with
 | cons r rs=>
  cases rs
  cases r with
  | list ho hc hd ra=>
   refine aM (uE (W:=xJ PySem.Challenge.rw_nt0261_01.row.toRowW.prog w K bA.heap q (looseW q loose) mg mb) (B:=bA.heap.get?) (ρ:= []) ra hx) λl xq2 zz=>?_;subst xq2;have hv:∀ρ,VRs (xJ PySem.Challenge.rw_nt0261_01.row.toRowW.prog w K bA.heap q (looseW q loose) mg mb) bA.heap.get? ρ [rL l] _:=λρ=> .cons (.a ho ⟨hc,_,hd⟩ (by
    refine aM (uE (W:=xJ PySem.Challenge.rw_nt0261_01.row.toRowW.prog w K bA.heap q (looseW q loose) mg mb) (B:=bA.heap.get?) (ρ:=ρ) ra hx) λl' e q=>?_
    have:l=l':=(List.map_inj_right (λa b h=>WData.int.inj h)).mp e
    erw [this];exact q)) .nil;rw[aL]at hl
   erw [ea]
   have post:PySem.Challenge.rw_nt0261_01.row.toRowW.claim.post [.list (l.map .int)] (.bool true) [.list (l.map .int)]=true:=by
    show(WShape.has [] (.bool true) .bool && (WTm.eq .res (.lit (.bool true))).holds [] {args:= [.list (l.map .int)],res:=some (.bool true),after:= [.list (l.map .int)]})=true
    exact ae.mpr ⟨rfl,by simp[WTm.holds,WTm.value,same]⟩
   refine dO (EI X T e1 e2 UA hl hv) (λv s' xq3=>vr xq3 λhv' hk hos hgn=>?_) λzz zy z=>z.elim;subst hv';exact GoodW.toG (Ae (.inl (iR _ (.bool true) ([]) rfl (λzz=>rfl) (.bool true) post (λzz=>⟨.nil,λzz m=>(nomatch m)⟩))) hk hos (hgn.trans hg))
end
end Mine.Internal
end
theorem PySem.Challenge.cw_nt0261_01_holds : PySem.Challenge.rw_nt0261_01.Holds :=
  Mine.Internal.hd Mine.Internal.fin_walk
