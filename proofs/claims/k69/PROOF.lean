import PyProof.Rows.All
import Wide.All
import OpenK.AllK
import Wide.FinOn
import PySem.Challenge.RW_stormpost_k69_streams_to_oneself
import HandS.ForMost
import KE.SortData
import KE.DataMinMax
import KE.KStateDown
import HandS.ForExc
import HandS.Defaults
import HandS.Style
import HandS.Wide
import HandS.Zip
import HandS.Conv
import HandS.Strs
import HandS.NoneIn
import HandS.TupAny
import HandS.TupMul
import HandS.Flow
import HandS.StrMore
import HandS.Replace
import HandS.HeadHook1
import HandS.HeadHook2
import HandS.HeadEnd
import HandS.Head0
import HandS.Head1
import HandS.Head2
import HandS.Deep
import HandS.TupLe
import HandS.ListItems
import HandS.Rev
import HandS.RevTup
import HandS.TupLen
import HandS.WordsDict
import HandS.SetFor
import HandS.RaiseMore
import HandS.IsInst
import KE.KDictList
import HandS.DictTup
section
set_option Elab.async false
set_option linter.all false
set_option maxRecDepth 100000
namespace Mn
open PySem L2
inductive W where
  | non | bl (b : Bool) | int (i : Int) | str (s : Str) | ref (a : Nat)
  | tup (xs : List W) | ktup (xs : List W) | klst (xs : List W)
  deriving Inhabited
inductive O where
  | lst (xs : List W) | dK (kvs : List (Key × W)) | dT (kvs : List (List Key × W)) | ins (c : Nat) (fs : List (Nat × W))
  deriving Inhabited

inductive BO | add | sub | mul | fdiv | mod | pow
  deriving DecidableEq
inductive CO | eq | ne | lt | le | gt | ge | isin | notin | isn | isnotn
  deriving DecidableEq

inductive BI | len | abs | min | max | sum | any | all | int | str | list | tuple | sorted | lenset | listrev | listitems | dict | islist | isbool | isint | isstr
  deriving DecidableEq

inductive BM | append | extend | pop | insert | remove | count | index | reverse | get | setdefault | join | split | partition | replace | startswith
  deriving DecidableEq

inductive Tg | one (i : Nat) | row (is : List Nat)
mutual
inductive Ex where
  | loc (i : Nat) | con (w : W)
  | bin (o : BO) (a b : Ex) | neg (a : Ex)
  | cmp (o : CO) (a b : Ex) | cmp2 (o p : CO) (a b c : Ex)
  | and (a b : Ex) | or (a b : Ex) | not (a : Ex)
  | tup (es : Exs) | lst (es : Exs) | dict (t : Bool) | disp (es : Exs)
  | attr (a : Ex) (f : Nat) | sub (a b : Ex) | cut (a lo hi : Ex)
  | call (f : Nat) (es : Exs) | meth (o : Ex) (m : Nat) (es : Exs) | make (c : Nat) (es : Exs)
  | bi (f : BI) (es : Exs) | bm (m : BM) (o : Ex) (es : Exs)
  | comp (e : Ex) (t : Tg) (it : It) (c : Ex)
  | no
inductive Exs where
  | nil | cons (e : Ex) (es : Exs)
inductive It where
  | val (e : Ex) | rng (a b : Ex) | enum (e : Ex) | zip (a b : Ex)
end
mutual
inductive Sm where
  | expr (e : Ex) | set (t : Tg) (e : Ex) | fld (o : Ex) (f : Nat) (e : Ex) | item (o i e : Ex)
  | ret (e : Ex) | ite (c : Ex) (a b : Sms) | whl (c : Ex) (b : Sms) | for (t : Tg) (it : It) (b : Sms)
  | raise (c : Nat) | pass | tri (b : Sms)
inductive Sms where
  | nil | cons (s : Sm) (r : Sms)
end
def Exs.of : List Ex → Exs
  | [] => .nil
  | e :: r => .cons e (Exs.of r)
def Sms.of : List Sm → Sms
  | [] => .nil
  | e :: r => .cons e (Sms.of r)


structure Fn where
  ps : Nat
  ns : Nat
  body : Sms
  pure : Bool
structure Tx where
  fns : List (Nat × Fn)
  meths : List (Nat × Nat × Nat)
  inits : List (Nat × Nat)
  goods : List (Nat × Nat)
  cl : List Nat
  nf : Nat

def Tx.fn (T : Tx) (f : Nat) : Option Fn := T.fns.lookup f
end Mn
end
section
set_option Elab.async false
set_option linter.all false
set_option maxRecDepth 100000
set_option maxHeartbeats 8000000
namespace Mn
open PySem PySem.Spec PyProof.Rows L2
structure Tb where
  cons : List (Str × W)
  funs : List (Str × Nat)
  clss : List (Str × Nat)
  flds : List Str
  excs : List (Str × Nat)
  nams : List Str
  gone : List Nat
  goneC : List Nat
def bltNames : List Str := ["len", "abs", "min", "max", "sum", "any", "all", "sorted", "int", "str", "list", "tuple", "dict", "set", "reversed", "isinstance", "range", "enumerate", "zip", "bool"]
mutual
def conB (K : PySem.W.Frag) : W → Value → Bool
  | .non, .none => true
  | .bl b, .bool c => b == c
  | .int i, .int j _ => decide (i = j)
  | .str s, .str z _ => decide (s = z)
  | .klst xs, .ref a => (match K.lookup a with
    | some ⟨.type c, none, .seq its _, _⟩ => decide (c = "list") && decide (its.size ≤ sizeLine) && conBs K xs its.toList
    | _ => false)
  | .ktup xs, .ref a => (match K.lookup a with
    | some ⟨.type c, none, .seq its _, _⟩ => decide (c = "tuple") && decide (its.size ≤ sizeLine) && conBs K xs its.toList
    | _ => false)
  | _, _ => false
def conBs (K : PySem.W.Frag) : List W → List Value → Bool
  | [], [] => true
  | w :: ws, u :: us => conB K w u && conBs K ws us
  | _, _ => false
end
structure Dd where
  at_ : Str × Option Str
  qual : Str
  N : List Str
  st : Stmt
def Dd.ps (d : Dd) : List Str := (defArgs d.st).args.map (·.arg)
def Dd.dd (d : Dd) : He.DefD := ⟨d.at_, d.at_.2.getD d.at_.1, d.qual, defArgs d.st, defBody d.st, defScope d.st, [], []⟩
structure Src where
  T : Tx
  cn : List Str
  fl : List Str
  ds : List (Nat × Dd)
  cons : List (Str × W)
  funs : List (Str × Nat)
  clss : List (Str × Nat)
  excs : List (Str × Nat)
  nams : List Str
  as : List Addr
  gone : List Nat
  goneC : List Nat
def Src.tb (S : Src) : Tb := ⟨S.cons, S.funs, S.clss, S.fl, S.excs, S.nams, S.gone, S.goneC⟩
def conIn (K : PySem.W.Frag) (x : Str) (w : W) : Bool := match PySem.W.nsIn K mainGlobals x with
  | some (some u) => conB K w u
  | _ => false
def rngB : Nat → (Nat → Bool) → Bool
  | 0, _ => true
  | n + 1, p => p n && rngB n p
theorem rngB_at {p : Nat → Bool} : ∀ {n i : Nat}, rngB n p = true → i < n → p i = true
  | 0, _, _, h => absurd h (by omega)
  | n + 1, i, h, hi => by
    have h' : (p n && rngB n p) = true := h
    rw [Bool.and_eq_true] at h'
    by_cases e : i = n
    · rw [e]; exact h'.1
    · exact rngB_at h'.2 (by omega)
def Src.told (S : Src) (K : PySem.W.Frag) : Bool :=
  (S.cons.all fun p => conIn K p.1 p.2) &&
  (S.funs.all fun p => (He.Fa.glo p.1).ok K) &&
  (S.clss.all fun p => (He.Fa.glo p.1).ok K) &&
  (S.T.cl.all fun c => (He.Fa.cls (S.cn.getD c "")).ok K) &&
  (S.T.inits.all fun p => (He.Fa.mkr (S.cn.getD p.1 "")).ok K) &&
  (S.T.meths.all fun p => (He.Fa.meth (S.cn.getD p.1 "") (S.fl.getD p.2.1 "")).ok K) &&
  (S.T.goods.all fun p => (He.Fa.noat (S.cn.getD p.1 "") (S.fl.getD p.2 "")).ok K) &&
  (bltNames.all fun x => (He.Fa.free x).ok K) &&
  (S.excs.all fun p => (He.Fa.glo p.1).ok K && (He.Fa.exc p.1).ok K) &&
  (S.nams.all fun x => (He.Fa.glo x).ok K)
abbrev AlS : Type := Bool × List He.FnW
def obsS (S : Src) (K : PySem.W.Frag) : AlS := (S.told K && S.ds.all fun d => d.2.dd.ok K, S.ds.map fun d => He.fnW K d.2.at_)
def valS (S : Src) : AlS := (true, S.ds.map fun d => d.2.dd.val)
def SaysS (S : Src) (K : PySem.W.Frag) : Prop := obsS S K = valS S
def obsSG (S : Src) (g : Addr → Option Obj) : AlS := obsS S (He.frG g S.as)
def hookS (S : Src) : PySem.W.Hook where
  α := AlS
  obs := fun s => obsSG S s.heap.get?
  val := fun _ => valS S
  says := fun _ h => ∃ K : PySem.W.Frag, K.In h ∧ SaysS S K
  of := fun _ _ e => ⟨_, He.frG_in, e⟩
  keeps := fun _ _ _ ⟨K, hK, c⟩ k => ⟨K, PySem.W.Frag.In.keeps hK k, c⟩
theorem obsSG_eq {S : Src} {g : Addr → Option Obj} {s : Shared} (h : ∀ a, g a = s.heap.get? a) : obsSG S g = (hookS S).obs s := by
  have e : g = s.heap.get? := funext h
  rw [e] <;> rfl
end Mn
end
section
set_option Elab.async false
set_option linter.all false
set_option maxRecDepth 100000
namespace P
open PySem Mn
def g_KINDS : W := .ktup [.str "news", .str "part", .str "had", .str "ask", .str "answer"]
def g_POWERS : W := .klst [.int 1, .int 5, .int 25, .int 28, .int 43, .int 21, .int 8, .int 40, .int 6, .int 30, .int 53, .int 71, .int 64, .int 29, .int 48, .int 46, .int 36, .int 83, .int 27, .int 38, .int 93, .int 77, .int 94, .int 82, .int 22, .int 13, .int 65, .int 34, .int 73, .int 74, .int 79, .int 7, .int 35, .int 78, .int 2, .int 10, .int 50, .int 56, .int 86, .int 42, .int 16, .int 80, .int 12, .int 60, .int 9, .int 45, .int 31, .int 58, .int 96, .int 92, .int 72, .int 69, .int 54, .int 76, .int 89, .int 57, .int 91, .int 67, .int 44, .int 26, .int 33, .int 68, .int 49, .int 51, .int 61, .int 14, .int 70, .int 59, .int 4, .int 20, .int 3, .int 15, .int 75, .int 84, .int 32, .int 63, .int 24, .int 23, .int 18, .int 90, .int 62, .int 19, .int 95, .int 87, .int 47, .int 41, .int 11, .int 55, .int 81, .int 17, .int 85, .int 37, .int 88, .int 52, .int 66, .int 39]
def g_CHECKS : W := .klst [.ktup [.int 59, .int 90, .int 35, .int 84, .int 52, .int 15], .ktup [.int 9, .int 54, .int 34, .int 27, .int 5, .int 62], .ktup [.int 76, .int 53, .int 23, .int 85, .int 82, .int 14], .ktup [.int 86, .int 39, .int 46, .int 22, .int 63, .int 59], .ktup [.int 16, .int 34, .int 58, .int 21, .int 54, .int 70], .ktup [.int 42, .int 25, .int 96, .int 53, .int 8, .int 36], .ktup [.int 41, .int 30, .int 7, .int 38, .int 38, .int 32], .ktup [.int 58, .int 95, .int 14, .int 74, .int 57, .int 27], .ktup [.int 55, .int 49, .int 33, .int 19, .int 87, .int 75], .ktup [.int 45, .int 30, .int 60, .int 90, .int 12, .int 40], .ktup [.int 24, .int 64, .int 10, .int 71, .int 41, .int 71], .ktup [.int 62, .int 65, .int 77, .int 95, .int 1, .int 56], .ktup [.int 53, .int 11, .int 37, .int 73, .int 7, .int 6], .ktup [.int 23, .int 51, .int 8, .int 92, .int 22, .int 11], .ktup [.int 26, .int 84, .int 94, .int 28, .int 47, .int 94], .ktup [.int 37, .int 27, .int 37, .int 18, .int 5, .int 45], .ktup [.int 27, .int 22, .int 53, .int 13, .int 72, .int 35], .ktup [.int 21, .int 80, .int 53, .int 2, .int 55, .int 63]]
def g_PLAIN : W := .ktup [.ktup [.int 1, .ktup []]]
def b_look_sign : Sms := .of [.ite (.or (.cmp .lt (.loc 0) (.con (.int 0))) (.cmp .ge (.loc 0) (.con (.int 97)))) (.of [.raise 19]) .nil]
def F_look_sign : Fn := ⟨1, 1, b_look_sign, true⟩
def b_power : Sms := .of [.expr (.call 1 (.of [.loc 0])), .set (.one 2) (.con (.int 1)), .set (.one 3) (.loc 0), .whl (.cmp .gt (.loc 1) (.con (.int 0))) (.of [.ite (.cmp .eq (.bin .mod (.loc 1) (.con (.int 2))) (.con (.int 1))) (.of [.set (.one 2) (.bin .mod (.bin .mul (.loc 2) (.loc 3)) (.con (.int 97)))]) .nil, .set (.one 3) (.bin .mod (.bin .mul (.loc 3) (.loc 3)) (.con (.int 97))), .set (.one 1) (.bin .fdiv (.loc 1) (.con (.int 2)))]), .ret (.loc 2)]
def F_power : Fn := ⟨2, 4, b_power, true⟩
def b_inverse : Sms := .of [.expr (.call 1 (.of [.loc 0])), .ite (.cmp .eq (.loc 0) (.con (.int 0))) (.of [.raise 19]) .nil, .ret (.call 2 (.of [.loc 0, .bin .sub (.con (.int 97)) (.con (.int 2))]))]
def F_inverse : Fn := ⟨1, 1, b_inverse, true⟩
def b_sign_of : Sms := .of [.ite (.cmp .notin (.loc 0) (.con (.str " !\"#$&'()*+,-./0123456789:;<=>?@ABCDEFGHIJKLMNOPQRSTUVWXYZ[\\]^_`abcdefghijklmnopqrstuvwxyz{|}~\n"))) (.of [.raise 19]) .nil, .set (.one 1) (.bm .index (.con (.str " !\"#$&'()*+,-./0123456789:;<=>?@ABCDEFGHIJKLMNOPQRSTUVWXYZ[\\]^_`abcdefghijklmnopqrstuvwxyz{|}~\n")) (.of [.loc 0])), .ite (.cmp .lt (.loc 1) (.con (.int 5))) (.of [.ret (.loc 1)]) .nil, .ret (.bin .add (.loc 1) (.con (.int 1)))]
def F_sign_of : Fn := ⟨1, 2, b_sign_of, true⟩
def b_text_signs : Sms := .of [.ret (.comp (.call 4 (.of [.loc 1])) (.one 1) (.val (.loc 0)) (.con (.bl true)))]
def F_text_signs : Fn := ⟨1, 2, b_text_signs, true⟩
def b_number_signs : Sms := .of [.set (.one 2) (.lst .nil), .set (.one 3) (.loc 0), .for (.one 4) (.rng (.con (.int 0)) (.loc 1)) (.of [.expr (.bm .append (.loc 2) (.of [.bin .mod (.loc 3) (.con (.int 97))])), .set (.one 3) (.bin .fdiv (.loc 3) (.con (.int 97)))]), .ite (.cmp .ne (.loc 3) (.con (.int 0))) (.of [.raise 19]) .nil, .ret (.bi .listrev (.of [.loc 2]))]
def F_number_signs : Fn := ⟨2, 5, b_number_signs, true⟩
def b_signs_number : Sms := .of [.set (.one 1) (.con (.int 0)), .for (.one 2) (.val (.loc 0)) (.of [.expr (.call 1 (.of [.loc 2])), .set (.one 1) (.bin .add (.bin .mul (.loc 1) (.con (.int 97))) (.loc 2))]), .ret (.loc 1)]
def F_signs_number : Fn := ⟨1, 3, b_signs_number, true⟩
def b_is_house : Sms := .of [.ret (.cmp2 .le .le (.con (.int 0)) (.loc 0) (.con (.int 31)))]
def F_is_house : Fn := ⟨1, 1, b_is_house, true⟩
def b_is_name : Sms := .of [.ite (.or (.not (.cmp2 .le .le (.con (.int 1)) (.bi .len (.of [.loc 0])) (.con (.int 4)))) (.cmp .isin (.con (.str " ")) (.loc 0))) (.of [.ret (.con (.bl false))]) .nil, .ret (.bi .all (.of [.comp (.cmp .isin (.loc 1) (.con (.str " abcdefghijklmnopqrstuvwxyz"))) (.one 1) (.val (.loc 0)) (.con (.bl true))]))]
def F_is_name : Fn := ⟨1, 2, b_is_name, true⟩
def b_look_at_near : Sms := .of [.ite (.cmp .gt (.bi .len (.of [.loc 1])) (.con (.int 5))) (.of [.raise 27]) .nil, .set (.one 2) (.disp (.of [.loc 0, .con (.bl true)])), .for (.row [3, 4, 5]) (.val (.loc 1)) (.of [.ite (.or (.not (.call 8 (.of [.loc 3]))) (.or (.cmp .isin (.loc 3) (.loc 2)) (.not (.cmp2 .le .le (.con (.int 1)) (.loc 4) (.con (.int 10)))))) (.of [.raise 27]) .nil, .ite (.or (.not (.cmp2 .le .le (.con (.int 1)) (.sub (.loc 5) (.con (.int 0))) (.con (.int 9000)))) (.not (.cmp2 .le .le (.con (.int 1)) (.sub (.loc 5) (.con (.int 1))) (.con (.int 9000))))) (.of [.raise 27]) .nil, .item (.loc 2) (.loc 3) (.con (.bl true))])]
def F_look_at_near : Fn := ⟨2, 6, b_look_at_near, true⟩
def b_look_at_names : Sms := .of [.ite (.or (.cmp .gt (.bi .len (.of [.loc 0])) (.con (.int 4))) (.cmp .lt (.bi .lenset (.of [.loc 0])) (.bi .len (.of [.loc 0])))) (.of [.raise 27]) .nil, .for (.one 1) (.val (.loc 0)) (.of [.ite (.not (.call 9 (.of [.loc 1]))) (.of [.raise 27]) .nil])]
def F_look_at_names : Fn := ⟨1, 2, b_look_at_names, true⟩
def b_made_news : Sms := .of [.ite (.or (.not (.call 8 (.of [.loc 0]))) (.not (.cmp2 .le .le (.con (.int 0)) (.loc 1) (.con (.int 900000))))) (.of [.raise 27]) .nil, .expr (.call 10 (.of [.loc 0, .loc 2])), .expr (.call 11 (.of [.loc 3])), .set (.one 4) (.comp (.tup (.of [.loc 5, .loc 6, .tup (.of [.sub (.loc 7) (.con (.int 0)), .sub (.loc 7) (.con (.int 1))])])) (.row [5, 6, 7]) (.val (.loc 2)) (.con (.bl true))), .ret (.tup (.of [.loc 0, .loc 1, .bi .tuple (.of [.bi .sorted (.of [.loc 4])]), .bi .tuple (.of [.bi .sorted (.of [.loc 3])])]))]
def F_made_news : Fn := ⟨4, 8, b_made_news, true⟩
def b_name_number : Sms := .of [.set (.one 1) (.con (.int 0)), .for (.one 2) (.val (.loc 0)) (.of [.set (.one 1) (.bin .add (.bin .mul (.loc 1) (.con (.int 27))) (.bm .index (.con (.str " abcdefghijklmnopqrstuvwxyz")) (.of [.loc 2])))]), .ret (.loc 1)]
def F_name_number : Fn := ⟨1, 3, b_name_number, true⟩
def b_name_of : Sms := .of [.set (.one 1) (.con (.str "")), .whl (.cmp .gt (.loc 0) (.con (.int 0))) (.of [.set (.one 1) (.bin .add (.sub (.con (.str " abcdefghijklmnopqrstuvwxyz")) (.bin .mod (.loc 0) (.con (.int 27)))) (.loc 1)), .set (.one 0) (.bin .fdiv (.loc 0) (.con (.int 27)))]), .ite (.not (.call 9 (.of [.loc 1]))) (.of [.raise 27]) .nil, .ret (.loc 1)]
def F_name_of : Fn := ⟨1, 2, b_name_of, true⟩
def b_news_body : Sms := .of [.set (.row [3, 4, 5, 6]) (.loc 0), .set (.one 1) (.bin .add (.bin .add (.lst (.of [.loc 3])) (.call 6 (.of [.loc 4, .con (.int 3)]))) (.lst (.of [.bi .len (.of [.loc 5])]))), .for (.row [7, 8, 9]) (.val (.loc 5)) (.of [.expr (.bm .extend (.loc 1) (.of [.lst (.of [.loc 7, .loc 8])])), .expr (.bm .extend (.loc 1) (.of [.call 6 (.of [.sub (.loc 9) (.con (.int 0)), .con (.int 2)])])), .expr (.bm .extend (.loc 1) (.of [.call 6 (.of [.sub (.loc 9) (.con (.int 1)), .con (.int 2)])]))]), .expr (.bm .append (.loc 1) (.of [.bi .len (.of [.loc 6])])), .for (.one 2) (.val (.loc 6)) (.of [.expr (.bm .extend (.loc 1) (.of [.call 6 (.of [.call 13 (.of [.loc 2]), .con (.int 3)])]))]), .ret (.bi .tuple (.of [.loc 1]))]
def F_news_body : Fn := ⟨1, 10, b_news_body, true⟩
def b_SignRow___init__ : Sms := .of [.fld (.loc 0) 2 (.bi .list (.of [.loc 1])), .fld (.loc 0) 3 (.con (.int 0))]
def F_SignRow___init__ : Fn := ⟨2, 2, b_SignRow___init__, false⟩
def b_SignRow_number_here : Sms := .of [.set (.one 2) (.cut (.attr (.loc 0) 2) (.attr (.loc 0) 3) (.bin .add (.attr (.loc 0) 3) (.loc 1))), .fld (.loc 0) 3 (.bin .add (.attr (.loc 0) 3) (.loc 1)), .ite (.cmp .lt (.bi .len (.of [.loc 2])) (.loc 1)) (.of [.raise 27]) .nil, .ret (.call 7 (.of [.loc 2]))]
def F_SignRow_number_here : Fn := ⟨2, 3, b_SignRow_number_here, false⟩
def b_SignRow_is_through : Sms := .of [.ret (.cmp .eq (.attr (.loc 0) 3) (.bi .len (.of [.attr (.loc 0) 2])))]
def F_SignRow_is_through : Fn := ⟨1, 1, b_SignRow_is_through, true⟩
def b_news_read : Sms := .of [.set (.one 1) (.meth (.loc 0) 4 (.of [.con (.int 1)])), .set (.one 2) (.meth (.loc 0) 4 (.of [.con (.int 3)])), .set (.one 3) (.lst .nil), .for (.one 4) (.rng (.con (.int 0)) (.meth (.loc 0) 4 (.of [.con (.int 1)]))) (.of [.set (.one 6) (.meth (.loc 0) 4 (.of [.con (.int 1)])), .set (.one 7) (.meth (.loc 0) 4 (.of [.con (.int 1)])), .set (.one 8) (.meth (.loc 0) 4 (.of [.con (.int 2)])), .expr (.bm .append (.loc 3) (.of [.tup (.of [.loc 6, .loc 7, .tup (.of [.loc 8, .meth (.loc 0) 4 (.of [.con (.int 2)])])])]))]), .set (.one 5) (.lst .nil), .for (.one 4) (.rng (.con (.int 0)) (.meth (.loc 0) 4 (.of [.con (.int 1)]))) (.of [.expr (.bm .append (.loc 5) (.of [.call 14 (.of [.meth (.loc 0) 4 (.of [.con (.int 3)])])]))]), .ret (.call 12 (.of [.loc 1, .loc 2, .loc 3, .loc 5]))]
def F_news_read : Fn := ⟨1, 9, b_news_read, false⟩
def b_news_of : Sms := .of [.set (.one 1) (.make 0 (.of [.loc 0])), .tri (.of [.set (.one 2) (.call 19 (.of [.loc 1]))]), .ite (.or (.not (.meth (.loc 1) 94 .nil)) (.cmp .ne (.call 15 (.of [.loc 2])) (.bi .tuple (.of [.loc 0])))) (.of [.raise 27]) .nil, .ret (.loc 2)]
def F_news_of : Fn := ⟨1, 3, b_news_of, true⟩
def b_Map___init__ : Sms := .of [.fld (.loc 0) 5 (.dict false)]
def F_Map___init__ : Fn := ⟨1, 1, b_Map___init__, false⟩
def b_Map_hear : Sms := .of [.ite (.and (.cmp .isin (.sub (.loc 1) (.con (.int 0))) (.attr (.loc 0) 5)) (.cmp .ge (.sub (.sub (.attr (.loc 0) 5) (.sub (.loc 1) (.con (.int 0)))) (.con (.int 1))) (.sub (.loc 1) (.con (.int 1))))) (.of [.ret (.con (.bl false))]) .nil, .item (.attr (.loc 0) 5) (.sub (.loc 1) (.con (.int 0))) (.loc 1), .ret (.con (.bl true))]
def F_Map_hear : Fn := ⟨2, 2, b_Map_hear, false⟩
def b_Map_news : Sms := .of [.ret (.comp (.sub (.attr (.loc 0) 5) (.loc 1)) (.one 1) (.val (.bi .sorted (.of [.bi .list (.of [.attr (.loc 0) 5])]))) (.con (.bl true)))]
def F_Map_news : Fn := ⟨1, 2, b_Map_news, true⟩
def b_Map_told_back : Sms := .of [.ite (.cmp .isin (.loc 2) (.attr (.loc 0) 5)) (.of [.for (.row [4, 5, 6]) (.val (.sub (.sub (.attr (.loc 0) 5) (.loc 2)) (.con (.int 2)))) (.of [.ite (.and (.cmp .eq (.loc 4) (.loc 1)) (.cmp .eq (.loc 6) (.loc 3))) (.of [.ret (.loc 5)]) .nil])]) .nil, .ret (.con .non)]
def F_Map_told_back : Fn := ⟨4, 7, b_Map_told_back, true⟩
def b_Map_wires : Sms := .of [.set (.one 1) (.lst .nil), .for (.one 2) (.val (.bi .sorted (.of [.bi .list (.of [.attr (.loc 0) 5])]))) (.of [.for (.row [3, 4, 5]) (.val (.sub (.sub (.attr (.loc 0) 5) (.loc 2)) (.con (.int 2)))) (.of [.set (.one 6) (.meth (.loc 0) 111 (.of [.loc 2, .loc 3, .loc 5])), .ite (.and (.cmp .lt (.loc 2) (.loc 3)) (.cmp .isnotn (.loc 6) (.con .non))) (.of [.expr (.bm .append (.loc 1) (.of [.tup (.of [.loc 2, .loc 3, .bi .max (.of [.loc 4, .loc 6])])]))]) .nil])]), .ret (.loc 1)]
def F_Map_wires : Fn := ⟨1, 7, b_Map_wires, true⟩
def b_Map_holder : Sms := .of [.for (.one 2) (.val (.bi .sorted (.of [.bi .list (.of [.attr (.loc 0) 5])]))) (.of [.ite (.cmp .isin (.loc 1) (.sub (.sub (.attr (.loc 0) 5) (.loc 2)) (.con (.int 3)))) (.of [.ret (.loc 2)]) .nil]), .ret (.con .non)]
def F_Map_holder : Fn := ⟨2, 3, b_Map_holder, true⟩
def b_Map_copy : Sms := .of [.set (.one 1) (.make 1 .nil), .for (.one 2) (.val (.attr (.loc 0) 5)) (.of [.expr (.meth (.loc 1) 76 (.of [.sub (.attr (.loc 0) 5) (.loc 2)]))]), .ret (.loc 1)]
def F_Map_copy : Fn := ⟨1, 3, b_Map_copy, false⟩
def b_beside : Sms := .of [.set (.one 2) (.lst .nil), .for (.row [3, 4, 5]) (.val (.loc 0)) (.of [.ite (.cmp .eq (.loc 3) (.loc 1)) (.of [.expr (.bm .append (.loc 2) (.of [.tup (.of [.loc 4, .loc 5])]))]) (.of [.ite (.cmp .eq (.loc 4) (.loc 1)) (.of [.expr (.bm .append (.loc 2) (.of [.tup (.of [.loc 3, .loc 5])]))]) .nil])]), .ret (.bi .sorted (.of [.loc 2]))]
def F_beside : Fn := ⟨2, 6, b_beside, true⟩
def b_lengths_to : Sms := .of [.set (.one 2) (.disp (.of [.loc 1, .con (.int 0)])), .set (.one 3) (.con (.bl true)), .whl (.loc 3) (.of [.set (.one 3) (.con (.bl false)), .for (.one 4) (.val (.bi .list (.of [.loc 2]))) (.of [.for (.row [5, 6]) (.val (.call 28 (.of [.loc 0, .loc 4]))) (.of [.ite (.or (.cmp .notin (.loc 5) (.loc 2)) (.cmp .lt (.bin .add (.sub (.loc 2) (.loc 4)) (.loc 6)) (.sub (.loc 2) (.loc 5)))) (.of [.item (.loc 2) (.loc 5) (.bin .add (.sub (.loc 2) (.loc 4)) (.loc 6)), .set (.one 3) (.con (.bl true))]) .nil])])]), .ret (.loc 2)]
def F_lengths_to : Fn := ⟨2, 7, b_lengths_to, false⟩
def b_way_of : Sms := .of [.set (.one 3) (.meth (.loc 0) 6 .nil), .set (.one 4) (.call 29 (.of [.loc 3, .loc 2])), .ite (.cmp .notin (.loc 1) (.loc 4)) (.of [.ret (.tup (.of [.con (.str "side"), .bi .tuple (.of [.bi .sorted (.of [.call 29 (.of [.loc 3, .loc 1])])])]))]) .nil, .set (.one 5) (.lst (.of [.loc 1])), .whl (.cmp .ne (.sub (.loc 5) (.neg (.con (.int 1)))) (.loc 2)) (.of [.expr (.bm .append (.loc 5) (.of [.bi .min (.of [.comp (.loc 6) (.row [6, 7]) (.val (.call 28 (.of [.loc 3, .sub (.loc 5) (.neg (.con (.int 1)))]))) (.cmp .eq (.bin .add (.sub (.loc 4) (.loc 6)) (.loc 7)) (.sub (.loc 4) (.sub (.loc 5) (.neg (.con (.int 1))))))])]))]), .ret (.tup (.of [.con (.str "way"), .bi .tuple (.of [.loc 5]), .bi .sorted (.of [.comp (.tup (.of [.loc 6, .sub (.loc 4) (.loc 6)])) (.one 6) (.val (.loc 4)) (.con (.bl true))])]))]
def F_way_of : Fn := ⟨3, 8, b_way_of, false⟩
def b_is_side : Sms := .of [.set (.one 4) (.neg (.con (.int 1))), .for (.one 5) (.val (.loc 3)) (.of [.ite (.or (.cmp .le (.loc 5) (.loc 4)) (.cmp .gt (.loc 5) (.con (.int 31)))) (.of [.ret (.con (.bl false))]) .nil, .set (.one 4) (.loc 5)]), .ite (.or (.cmp .notin (.loc 1) (.loc 3)) (.cmp .isin (.loc 2) (.loc 3))) (.of [.ret (.con (.bl false))]) .nil, .ret (.cmp .eq (.bi .len (.of [.comp (.loc 6) (.one 6) (.val (.loc 0)) (.cmp .ne (.cmp .isin (.sub (.loc 6) (.con (.int 0))) (.loc 3)) (.cmp .isin (.sub (.loc 6) (.con (.int 1))) (.loc 3)))])) (.con (.int 0)))]
def F_is_side : Fn := ⟨4, 7, b_is_side, true⟩
def b_way_length : Sms := .of [.set (.one 2) (.con (.int 0)), .for (.one 3) (.rng (.con (.int 1)) (.bi .len (.of [.loc 1]))) (.of [.set (.one 4) (.comp (.loc 6) (.row [5, 6]) (.val (.call 28 (.of [.loc 0, .sub (.loc 1) (.bin .sub (.loc 3) (.con (.int 1)))]))) (.cmp .eq (.loc 5) (.sub (.loc 1) (.loc 3)))), .ite (.cmp .eq (.loc 4) (.lst .nil)) (.of [.ret (.con .non)]) .nil, .set (.one 2) (.bin .add (.loc 2) (.sub (.loc 4) (.con (.int 0))))]), .ret (.loc 2)]
def F_way_length : Fn := ⟨2, 7, b_way_length, true⟩
def b_heights_stand : Sms := .of [.set (.one 3) (.dict false), .for (.row [4, 5]) (.val (.loc 2)) (.of [.item (.loc 3) (.loc 4) (.loc 5)]), .ite (.or (.cmp .ne (.comp (.sub (.loc 9) (.con (.int 0))) (.one 9) (.val (.loc 2)) (.con (.bl true))) (.bi .sorted (.of [.call 29 (.of [.loc 0, .loc 1])]))) (.cmp .ne (.sub (.loc 3) (.loc 1)) (.con (.int 0)))) (.of [.ret (.con (.bl false))]) .nil, .for (.row [6, 7, 8]) (.val (.loc 0)) (.of [.ite (.and (.cmp .isin (.loc 6) (.loc 3)) (.cmp .gt (.bi .abs (.of [.bin .sub (.sub (.loc 3) (.loc 6)) (.sub (.loc 3) (.loc 7))])) (.loc 8))) (.of [.ret (.con (.bl false))]) .nil]), .ret (.con (.bl true))]
def F_heights_stand : Fn := ⟨3, 10, b_heights_stand, true⟩
def b_way_judged : Sms := .of [.set (.one 4) (.meth (.loc 0) 6 .nil), .ite (.cmp .eq (.sub (.loc 3) (.con (.int 0))) (.con (.str "side"))) (.of [.ret (.call 31 (.of [.loc 4, .loc 1, .loc 2, .sub (.loc 3) (.con (.int 1))]))]) .nil, .set (.row [6, 7]) (.cut (.loc 3) (.con (.int 1)) (.con .non)), .ite (.or (.cmp .eq (.bi .len (.of [.loc 6])) (.con (.int 0))) (.or (.cmp .ne (.sub (.loc 6) (.con (.int 0))) (.loc 1)) (.or (.cmp .ne (.sub (.loc 6) (.neg (.con (.int 1)))) (.loc 2)) (.cmp .ne (.bi .lenset (.of [.loc 6])) (.bi .len (.of [.loc 6])))))) (.of [.ret (.con (.bl false))]) .nil, .set (.one 5) (.call 32 (.of [.loc 4, .loc 6])), .ite (.or (.cmp .isn (.loc 5) (.con .non)) (.not (.call 33 (.of [.loc 4, .loc 2, .loc 7])))) (.of [.ret (.con (.bl false))]) .nil, .ret (.cmp .eq (.comp (.sub (.loc 8) (.con (.int 1))) (.one 8) (.val (.loc 7)) (.cmp .eq (.sub (.loc 8) (.con (.int 0))) (.loc 1))) (.lst (.of [.loc 5])))]
def F_way_judged : Fn := ⟨4, 9, b_way_judged, true⟩
def b_Writer___init__ : Sms := .of [.fld (.loc 0) 7 (.lst .nil), .fld (.loc 0) 8 (.con (.int 0)), .fld (.loc 0) 9 (.con (.int 0)), .fld (.loc 0) 10 (.con (.bl false))]
def F_Writer___init__ : Fn := ⟨1, 1, b_Writer___init__, false⟩
def b_Writer_ask_open : Sms := .of [.ite (.attr (.loc 0) 10) (.of [.raise 30]) .nil]
def F_Writer_ask_open : Fn := ⟨1, 1, b_Writer_ask_open, false⟩
def b_Writer_last_free : Sms := .of [.ret (.cmp .gt (.bi .len (.of [.attr (.loc 0) 7])) (.attr (.loc 0) 8))]
def F_Writer_last_free : Fn := ⟨1, 1, b_Writer_last_free, true⟩
def b_Writer_write : Sms := .of [.expr (.meth (.loc 0) 63 .nil), .for (.one 2) (.val (.call 5 (.of [.loc 1]))) (.of [.ite (.or (.not (.meth (.loc 0) 95 .nil)) (.cmp .eq (.bi .len (.of [.sub (.attr (.loc 0) 7) (.neg (.con (.int 1)))])) (.con (.int 12)))) (.of [.expr (.bm .append (.attr (.loc 0) 7) (.of [.lst .nil]))]) .nil, .expr (.bm .append (.sub (.attr (.loc 0) 7) (.neg (.con (.int 1)))) (.of [.loc 2]))])]
def F_Writer_write : Fn := ⟨2, 3, b_Writer_write, false⟩
def b_Writer_close : Sms := .of [.expr (.meth (.loc 0) 63 .nil), .ite (.not (.meth (.loc 0) 95 .nil)) (.of [.expr (.bm .append (.attr (.loc 0) 7) (.of [.lst .nil]))]) .nil, .fld (.loc 0) 10 (.con (.bl true))]
def F_Writer_close : Fn := ⟨1, 1, b_Writer_close, false⟩
def b_Writer_body_of : Sms := .of [.set (.one 2) (.and (.attr (.loc 0) 10) (.cmp .eq (.loc 1) (.bin .sub (.bi .len (.of [.attr (.loc 0) 7])) (.con (.int 1))))), .ret (.bi .tuple (.of [.bin .add (.lst (.of [.bi .int (.of [.loc 2])])) (.sub (.attr (.loc 0) 7) (.loc 1))]))]
def F_Writer_body_of : Fn := ⟨2, 3, b_Writer_body_of, true⟩
def b_Writer_due : Sms := .of [.set (.one 1) (.bi .min (.of [.bin .add (.attr (.loc 0) 9) (.con (.int 4)), .bi .len (.of [.attr (.loc 0) 7])])), .fld (.loc 0) 8 (.bi .max (.of [.attr (.loc 0) 8, .loc 1])), .ret (.comp (.tup (.of [.loc 2, .meth (.loc 0) 112 (.of [.loc 2])])) (.one 2) (.rng (.attr (.loc 0) 9) (.loc 1)) (.con (.bl true)))]
def F_Writer_due : Fn := ⟨1, 3, b_Writer_due, false⟩
def b_Writer_had : Sms := .of [.fld (.loc 0) 9 (.bi .max (.of [.attr (.loc 0) 9, .bi .min (.of [.loc 1, .bi .len (.of [.attr (.loc 0) 7])])]))]
def F_Writer_had : Fn := ⟨2, 2, b_Writer_had, false⟩
def b_Writer_is_done : Sms := .of [.ret (.and (.attr (.loc 0) 10) (.cmp .eq (.meth (.loc 0) 96 .nil) (.con (.int 0))))]
def F_Writer_is_done : Fn := ⟨1, 1, b_Writer_is_done, true⟩
def b_Writer_left : Sms := .of [.ret (.bin .sub (.bi .len (.of [.attr (.loc 0) 7])) (.attr (.loc 0) 9))]
def F_Writer_left : Fn := ⟨1, 1, b_Writer_left, true⟩
def b_Shelf___init__ : Sms := .of [.fld (.loc 0) 11 (.dict false)]
def F_Shelf___init__ : Fn := ⟨1, 1, b_Shelf___init__, false⟩
def b_Shelf_put_word : Sms := .of [.set (.one 3) (.bm .get (.attr (.loc 0) 11) (.of [.loc 1, .con (.str "-")])), .item (.attr (.loc 0) 11) (.loc 1) (.loc 2), .ret (.loc 3)]
def F_Shelf_put_word : Fn := ⟨3, 4, b_Shelf_put_word, false⟩
def b_Shelf_add_to : Sms := .of [.set (.one 3) (.call 160 (.of [.bm .get (.attr (.loc 0) 11) (.of [.loc 1, .con (.str "0")])])), .ite (.cmp .isn (.loc 3) (.con .non)) (.of [.set (.one 3) (.con (.int 0))]) .nil, .item (.attr (.loc 0) 11) (.loc 1) (.bi .str (.of [.bin .add (.loc 3) (.loc 2)])), .ret (.sub (.attr (.loc 0) 11) (.loc 1))]
def F_Shelf_add_to : Fn := ⟨3, 4, b_Shelf_add_to, false⟩
def b_Shelf_do_ask : Sms := .of [.set (.one 2) (.bm .split (.loc 1) (.of [.con (.str " ")])), .ite (.and (.cmp .eq (.bi .len (.of [.loc 2])) (.con (.int 3))) (.and (.cmp .eq (.sub (.loc 2) (.con (.int 0))) (.con (.str "put"))) (.and (.call 9 (.of [.sub (.loc 2) (.con (.int 1))])) (.call 161 (.of [.sub (.loc 2) (.con (.int 2))]))))) (.of [.ret (.meth (.loc 0) 140 (.of [.sub (.loc 2) (.con (.int 1)), .sub (.loc 2) (.con (.int 2))]))]) .nil, .ite (.and (.cmp .eq (.bi .len (.of [.loc 2])) (.con (.int 2))) (.and (.cmp .eq (.sub (.loc 2) (.con (.int 0))) (.con (.str "get"))) (.call 9 (.of [.sub (.loc 2) (.con (.int 1))])))) (.of [.ret (.bm .get (.attr (.loc 0) 11) (.of [.sub (.loc 2) (.con (.int 1)), .con (.str "-")]))]) .nil, .ite (.and (.cmp .eq (.bi .len (.of [.loc 2])) (.con (.int 3))) (.and (.cmp .eq (.sub (.loc 2) (.con (.int 0))) (.con (.str "add"))) (.and (.call 9 (.of [.sub (.loc 2) (.con (.int 1))])) (.call 162 (.of [.sub (.loc 2) (.con (.int 2))]))))) (.of [.ret (.meth (.loc 0) 141 (.of [.sub (.loc 2) (.con (.int 1)), .bi .int (.of [.sub (.loc 2) (.con (.int 2))])]))]) .nil, .ret (.con (.str "?"))]
def F_Shelf_do_ask : Fn := ⟨2, 3, b_Shelf_do_ask, false⟩
def b_Shelf_rows_kept : Sms := .of [.ret (.bi .sorted (.of [.bi .listitems (.of [.attr (.loc 0) 11])]))]
def F_Shelf_rows_kept : Fn := ⟨1, 1, b_Shelf_rows_kept, true⟩
def b_StreamRow___init__ : Sms := .of [.fld (.loc 0) 12 (.loc 1), .fld (.loc 0) 13 (.make 2 .nil), .fld (.loc 0) 14 (.con (.int 0))]
def F_StreamRow___init__ : Fn := ⟨2, 2, b_StreamRow___init__, false⟩
def b_AskRow___init__ : Sms := .of [.fld (.loc 0) 15 (.loc 1), .fld (.loc 0) 16 (.loc 2), .fld (.loc 0) 17 (.con (.bl false)), .fld (.loc 0) 18 (.con .non)]
def F_AskRow___init__ : Fn := ⟨3, 3, b_AskRow___init__, false⟩
def b_Desk___init__ : Sms := .of [.fld (.loc 0) 19 (.loc 1), .fld (.loc 0) 20 (.make 3 .nil), .fld (.loc 0) 21 (.lst .nil), .fld (.loc 0) 22 (.dict true), .fld (.loc 0) 23 (.dict true), .fld (.loc 0) 24 (.lst .nil), .fld (.loc 0) 25 (.dict true), .fld (.loc 0) 26 (.lst .nil)]
def F_Desk___init__ : Fn := ⟨2, 2, b_Desk___init__, false⟩
def b_Desk_begin : Sms := .of [.ite (.not (.call 8 (.of [.loc 1]))) (.of [.raise 28]) .nil, .expr (.bm .append (.attr (.loc 0) 21) (.of [.make 4 (.of [.loc 1])])), .ret (.bin .sub (.bi .len (.of [.attr (.loc 0) 21])) (.con (.int 1)))]
def F_Desk_begin : Fn := ⟨2, 2, b_Desk_begin, false⟩
def b_Desk_row_of : Sms := .of [.ite (.or (.cmp .lt (.loc 1) (.con (.int 0))) (.cmp .ge (.loc 1) (.bi .len (.of [.attr (.loc 0) 21])))) (.of [.raise 30]) .nil, .ret (.sub (.attr (.loc 0) 21) (.loc 1))]
def F_Desk_row_of : Fn := ⟨2, 2, b_Desk_row_of, true⟩
def b_Desk_write : Sms := .of [.expr (.meth (.attr (.meth (.loc 0) 66 (.of [.loc 1])) 13) 64 (.of [.loc 2]))]
def F_Desk_write : Fn := ⟨3, 3, b_Desk_write, false⟩
def b_Desk_close : Sms := .of [.expr (.meth (.attr (.meth (.loc 0) 66 (.of [.loc 1])) 13) 65 .nil)]
def F_Desk_close : Fn := ⟨2, 2, b_Desk_close, false⟩
def b_Desk_standing : Sms := .of [.set (.one 2) (.meth (.loc 0) 66 (.of [.loc 1])), .ite (.meth (.attr (.loc 2) 13) 67 .nil) (.of [.ret (.con (.str "done"))]) .nil, .ite (.cmp .eq (.meth (.attr (.loc 2) 13) 96 .nil) (.con (.int 0))) (.of [.ret (.con (.str "idle"))]) .nil, .ret (.call 30 (.of [.meth (.attr (.loc 0) 19) 97 .nil, .meth (.attr (.loc 0) 19) 98 .nil, .attr (.loc 2) 12]))]
def F_Desk_standing : Fn := ⟨2, 3, b_Desk_standing, false⟩
def b_Desk_heard : Sms := .of [.set (.one 1) (.lst .nil), .for (.row [2, 3]) (.val (.bi .sorted (.of [.bi .list (.of [.attr (.loc 0) 22])]))) (.of [.set (.one 4) (.attr (.sub (.attr (.loc 0) 22) (.tup (.of [.loc 2, .loc 3]))) 68), .expr (.bm .append (.loc 1) (.of [.tup (.of [.loc 2, .loc 3, .meth (.loc 4) 125 .nil, .meth (.loc 4) 126 .nil])]))]), .ret (.loc 1)]
def F_Desk_heard : Fn := ⟨1, 5, b_Desk_heard, true⟩
def b_Desk_ask : Sms := .of [.set (.one 3) (.con .non), .ite (.call 9 (.of [.loc 1])) (.of [.set (.one 3) (.meth (.meth (.attr (.loc 0) 19) 97 .nil) 99 (.of [.loc 1]))]) .nil, .ite (.cmp .isn (.loc 3) (.con .non)) (.of [.raise 29]) .nil, .ite (.cmp .gt (.bi .len (.of [.loc 2])) (.con (.int 40))) (.of [.raise 26]) .nil, .expr (.call 5 (.of [.loc 2])), .expr (.bm .append (.attr (.loc 0) 24) (.of [.make 5 (.of [.loc 3, .loc 2])])), .ret (.bin .sub (.bi .len (.of [.attr (.loc 0) 24])) (.con (.int 1)))]
def F_Desk_ask : Fn := ⟨3, 4, b_Desk_ask, false⟩
def b_Desk_ask_row : Sms := .of [.ite (.or (.cmp .lt (.loc 1) (.con (.int 0))) (.cmp .ge (.loc 1) (.bi .len (.of [.attr (.loc 0) 24])))) (.of [.raise 31]) .nil, .ret (.sub (.attr (.loc 0) 24) (.loc 1))]
def F_Desk_ask_row : Fn := ⟨2, 2, b_Desk_ask_row, true⟩
def b_Desk_answer : Sms := .of [.ret (.attr (.meth (.loc 0) 100 (.of [.loc 1])) 18)]
def F_Desk_answer : Fn := ⟨2, 2, b_Desk_answer, true⟩
def b_Desk_doer : Sms := .of [.ret (.attr (.meth (.loc 0) 100 (.of [.loc 1])) 15)]
def F_Desk_doer : Fn := ⟨2, 2, b_Desk_doer, true⟩
def b_Desk_shelf : Sms := .of [.ret (.meth (.attr (.loc 0) 20) 69 .nil)]
def F_Desk_shelf : Fn := ⟨1, 1, b_Desk_shelf, true⟩
def b_Desk_unfinished : Sms := .of [.set (.one 1) (.bi .sum (.of [.comp (.meth (.attr (.loc 4) 13) 96 .nil) (.one 4) (.val (.attr (.loc 0) 21)) (.con (.bl true))])), .set (.one 2) (.bi .len (.of [.comp (.loc 4) (.one 4) (.val (.attr (.loc 0) 24)) (.cmp .isn (.attr (.loc 4) 18) (.con .non))])), .set (.one 3) (.bi .len (.of [.comp (.loc 5) (.one 5) (.val (.attr (.loc 0) 25)) (.not (.attr (.sub (.attr (.loc 0) 25) (.loc 5)) 127))])), .ret (.bin .add (.bin .add (.bin .add (.loc 1) (.loc 2)) (.loc 3)) (.bi .len (.of [.attr (.loc 0) 21])))]
def F_Desk_unfinished : Fn := ⟨1, 6, b_Desk_unfinished, true⟩
def b_Desk_is_idle : Sms := .of [.ret (.cmp .eq (.meth (.loc 0) 89 .nil) (.bi .len (.of [.attr (.loc 0) 21])))]
def F_Desk_is_idle : Fn := ⟨1, 1, b_Desk_is_idle, true⟩
def b_Desk_trails : Sms := .of [.ret (.bi .list (.of [.attr (.loc 0) 26]))]
def F_Desk_trails : Fn := ⟨1, 1, b_Desk_trails, true⟩
def b_Desk_send_part : Sms := .of [.set (.one 4) (.sub (.attr (.loc 0) 21) (.loc 1)), .set (.one 5) (.bin .add (.call 6 (.of [.loc 1, .con (.int 2)])) (.call 6 (.of [.loc 2, .con (.int 2)]))), .expr (.meth (.attr (.loc 0) 19) 133 (.of [.attr (.loc 4) 12, .con (.str "part"), .bi .tuple (.of [.loc 5]), .loc 3])), .fld (.loc 4) 14 (.bi .max (.of [.attr (.loc 4) 14, .bin .add (.loc 2) (.con (.int 1))]))]
def F_Desk_send_part : Fn := ⟨4, 6, b_Desk_send_part, false⟩
def b_Desk_send_count : Sms := .of [.set (.one 3) (.bin .add (.lst (.of [.con (.int 0)])) (.call 6 (.of [.loc 2, .con (.int 2)]))), .set (.one 4) (.call 6 (.of [.attr (.sub (.attr (.loc 0) 22) (.tup (.of [.loc 1, .loc 2]))) 132, .con (.int 3)])), .expr (.meth (.attr (.loc 0) 19) 133 (.of [.loc 1, .con (.str "had"), .bi .tuple (.of [.loc 3]), .bi .tuple (.of [.loc 4])]))]
def F_Desk_send_count : Fn := ⟨3, 5, b_Desk_send_count, false⟩
def b_Desk_send_ask : Sms := .of [.set (.one 2) (.sub (.attr (.loc 0) 24) (.loc 1)), .fld (.loc 2) 17 (.con (.bl true)), .expr (.meth (.attr (.loc 0) 19) 133 (.of [.attr (.loc 2) 15, .con (.str "ask"), .bi .tuple (.of [.call 6 (.of [.loc 1, .con (.int 2)])]), .bi .tuple (.of [.call 5 (.of [.attr (.loc 2) 16])])]))]
def F_Desk_send_ask : Fn := ⟨2, 3, b_Desk_send_ask, false⟩
def b_Desk_send_answer : Sms := .of [.set (.one 3) (.attr (.sub (.attr (.loc 0) 25) (.tup (.of [.loc 1, .loc 2]))) 18), .expr (.meth (.attr (.loc 0) 19) 133 (.of [.loc 1, .con (.str "answer"), .bi .tuple (.of [.call 6 (.of [.loc 2, .con (.int 2)])]), .bi .tuple (.of [.call 5 (.of [.loc 3])])]))]
def F_Desk_send_answer : Fn := ⟨3, 4, b_Desk_send_answer, false⟩
def b_Desk_part_came : Sms := .of [.set (.one 3) (.call 7 (.of [.cut (.sub (.loc 2) (.con (.int 3))) (.con .non) (.con (.int 2))])), .set (.one 4) (.call 7 (.of [.cut (.sub (.loc 2) (.con (.int 3))) (.con (.int 2)) (.con .non)])), .ite (.cmp .notin (.tup (.of [.loc 1, .loc 3])) (.attr (.loc 0) 22)) (.of [.item (.attr (.loc 0) 22) (.tup (.of [.loc 1, .loc 3])) (.make 13 .nil)]) .nil, .set (.one 5) (.sub (.attr (.loc 0) 22) (.tup (.of [.loc 1, .loc 3]))), .ite (.cmp .notin (.tup (.of [.loc 1, .loc 3, .loc 4])) (.attr (.loc 0) 23)) (.of [.item (.attr (.loc 0) 23) (.tup (.of [.loc 1, .loc 3, .loc 4])) (.loc 2)]) .nil, .set (.one 6) (.attr (.loc 5) 132), .fld (.loc 5) 132 (.meth (.attr (.loc 5) 68) 118 (.of [.loc 4, .sub (.loc 2) (.con (.int 4))])), .for (.one 7) (.rng (.loc 6) (.attr (.loc 5) 132)) (.of [.expr (.bm .append (.attr (.loc 0) 26) (.of [.tup (.of [.tup (.of [.con (.str "read"), .loc 1, .loc 3, .loc 7]), .sub (.attr (.loc 0) 23) (.tup (.of [.loc 1, .loc 3, .loc 7]))])]))]), .expr (.meth (.loc 0) 134 (.of [.loc 1, .loc 3]))]
def F_Desk_part_came : Fn := ⟨3, 8, b_Desk_part_came, false⟩
def b_Desk_had_came : Sms := .of [.set (.one 3) (.call 7 (.of [.cut (.sub (.loc 2) (.con (.int 3))) (.con (.int 1)) (.con .non)])), .ite (.cmp .eq (.sub (.sub (.loc 2) (.con (.int 3))) (.con (.int 0))) (.con (.int 0))) (.of [.expr (.meth (.attr (.sub (.attr (.loc 0) 21) (.loc 3)) 13) 142 (.of [.call 7 (.of [.sub (.loc 2) (.con (.int 4))])]))]) (.of [.fld (.sub (.attr (.loc 0) 25) (.tup (.of [.loc 1, .loc 3]))) 127 (.con (.bl true))])]
def F_Desk_had_came : Fn := ⟨3, 4, b_Desk_had_came, false⟩
def b_Desk_ask_came : Sms := .of [.set (.one 3) (.call 7 (.of [.sub (.loc 2) (.con (.int 3))])), .ite (.cmp .notin (.tup (.of [.loc 1, .loc 3])) (.attr (.loc 0) 25)) (.of [.item (.attr (.loc 0) 25) (.tup (.of [.loc 1, .loc 3])) (.make 14 (.of [.meth (.attr (.loc 0) 20) 147 (.of [.call 155 (.of [.sub (.loc 2) (.con (.int 4))])])])), .expr (.bm .append (.attr (.loc 0) 26) (.of [.tup (.of [.tup (.of [.con (.str "done"), .loc 1, .loc 3]), .loc 2])]))]) .nil, .expr (.meth (.loc 0) 135 (.of [.loc 1, .loc 3]))]
def F_Desk_ask_came : Fn := ⟨3, 4, b_Desk_ask_came, false⟩
def b_Desk_answer_came : Sms := .of [.set (.one 3) (.sub (.attr (.loc 0) 24) (.call 7 (.of [.sub (.loc 2) (.con (.int 3))]))), .ite (.cmp .isn (.attr (.loc 3) 18) (.con .non)) (.of [.fld (.loc 3) 18 (.call 155 (.of [.sub (.loc 2) (.con (.int 4))]))]) .nil, .expr (.meth (.attr (.loc 0) 19) 133 (.of [.loc 1, .con (.str "had"), .bin .add (.tup (.of [.con (.int 1)])) (.sub (.loc 2) (.con (.int 3))), .tup .nil]))]
def F_Desk_answer_came : Fn := ⟨3, 4, b_Desk_answer_came, false⟩
def b_Desk_letter_here : Sms := .of [.set (.one 2) (.sub (.sub (.loc 1) (.con (.int 1))) (.con (.int 0))), .ite (.cmp .eq (.sub (.loc 1) (.con (.int 2))) (.con (.str "part"))) (.of [.expr (.meth (.loc 0) 143 (.of [.loc 2, .loc 1]))]) (.of [.ite (.cmp .eq (.sub (.loc 1) (.con (.int 2))) (.con (.str "had"))) (.of [.expr (.meth (.loc 0) 148 (.of [.loc 2, .loc 1]))]) (.of [.ite (.cmp .eq (.sub (.loc 1) (.con (.int 2))) (.con (.str "ask"))) (.of [.expr (.meth (.loc 0) 150 (.of [.loc 2, .loc 1]))]) (.of [.expr (.meth (.loc 0) 151 (.of [.loc 2, .loc 1]))])])])]
def F_Desk_letter_here : Fn := ⟨2, 3, b_Desk_letter_here, false⟩
def b_Desk_send_again : Sms := .of [.for (.row [2, 3]) (.val (.bi .sorted (.of [.bi .list (.of [.attr (.loc 0) 22])]))) (.of [.expr (.meth (.loc 0) 134 (.of [.loc 2, .loc 3]))]), .for (.one 1) (.val (.attr (.loc 0) 21)) (.of [.fld (.loc 1) 14 (.con (.int 0))]), .for (.one 1) (.val (.attr (.loc 0) 24)) (.of [.fld (.loc 1) 17 (.con (.bl false))]), .for (.row [4, 5]) (.val (.bi .sorted (.of [.bi .list (.of [.attr (.loc 0) 25])]))) (.of [.ite (.not (.attr (.sub (.attr (.loc 0) 25) (.tup (.of [.loc 4, .loc 5]))) 127)) (.of [.expr (.meth (.loc 0) 135 (.of [.loc 4, .loc 5]))]) .nil])]
def F_Desk_send_again : Fn := ⟨1, 6, b_Desk_send_again, false⟩
def b_Desk_send_new : Sms := .of [.for (.row [1, 2]) (.enum (.attr (.loc 0) 21)) (.of [.for (.row [3, 4]) (.val (.meth (.attr (.loc 2) 13) 144 .nil)) (.of [.ite (.cmp .ge (.loc 3) (.attr (.loc 2) 14)) (.of [.expr (.meth (.loc 0) 152 (.of [.loc 1, .loc 3, .loc 4]))]) .nil])]), .for (.row [3, 2]) (.enum (.attr (.loc 0) 24)) (.of [.ite (.and (.cmp .isn (.attr (.loc 2) 18) (.con .non)) (.not (.attr (.loc 2) 17))) (.of [.expr (.meth (.loc 0) 149 (.of [.loc 3]))]) .nil])]
def F_Desk_send_new : Fn := ⟨1, 5, b_Desk_send_new, false⟩
def b_Desk_work : Sms := .of [.set (.one 1) (.meth (.attr (.loc 0) 19) 136 .nil), .for (.one 2) (.val (.meth (.attr (.loc 0) 19) 137 .nil)) (.of [.expr (.meth (.loc 0) 145 (.of [.loc 2]))]), .ite (.loc 1) (.of [.expr (.meth (.loc 0) 146 .nil)]) .nil, .expr (.meth (.loc 0) 138 .nil)]
def F_Desk_work : Fn := ⟨1, 3, b_Desk_work, false⟩
def b_are_signs : Sms := .of [.for (.one 1) (.val (.loc 0)) (.of [.ite (.or (.cmp .lt (.loc 1) (.con (.int 0))) (.cmp .ge (.loc 1) (.con (.int 97)))) (.of [.ret (.con (.bl false))]) .nil]), .ret (.con (.bl true))]
def F_are_signs : Fn := ⟨1, 2, b_are_signs, true⟩
def b_is_way : Sms := .of [.ite (.or (.cmp .lt (.bi .len (.of [.loc 0])) (.con (.int 1))) (.or (.cmp .gt (.bi .len (.of [.loc 0])) (.con (.int 6))) (.cmp .lt (.bi .lenset (.of [.loc 0])) (.bi .len (.of [.loc 0]))))) (.of [.ret (.con (.bl false))]) .nil, .ret (.and (.cmp .ge (.bi .min (.of [.loc 0])) (.con (.int 0))) (.cmp .lt (.bi .max (.of [.loc 0])) (.con (.int 32))))]
def F_is_way : Fn := ⟨1, 1, b_is_way, true⟩
def b_made_letter : Sms := .of [.ite (.or (.cmp .lt (.loc 0) (.con (.int 0))) (.or (.cmp .gt (.loc 0) (.con (.int 900000))) (.or (.not (.call 80 (.of [.loc 1]))) (.cmp .notin (.loc 2) (.con g_KINDS))))) (.of [.raise 26]) .nil, .ite (.or (.cmp .gt (.bi .len (.of [.loc 3])) (.con (.int 4))) (.or (.cmp .gt (.bi .len (.of [.loc 4])) (.con (.int 56))) (.or (.not (.call 79 (.of [.loc 3]))) (.not (.call 79 (.of [.loc 4])))))) (.of [.raise 26]) .nil, .ret (.tup (.of [.loc 0, .bi .tuple (.of [.loc 1]), .loc 2, .bi .tuple (.of [.loc 3]), .bi .tuple (.of [.loc 4])]))]
def F_made_letter : Fn := ⟨5, 5, b_made_letter, true⟩
def b_letter_signs : Sms := .of [.set (.row [2, 3, 4, 5, 6]) (.loc 0), .set (.one 1) (.lst (.of [.bin .fdiv (.bin .fdiv (.loc 2) (.con (.int 97))) (.con (.int 97)), .bin .mod (.bin .fdiv (.loc 2) (.con (.int 97))) (.con (.int 97)), .bin .mod (.loc 2) (.con (.int 97))])), .expr (.bm .append (.loc 1) (.of [.bin .add (.bin .mul (.bi .len (.of [.loc 3])) (.bi .len (.of [.con g_KINDS]))) (.bm .index (.con g_KINDS) (.of [.loc 4]))])), .expr (.bm .extend (.loc 1) (.of [.loc 3])), .expr (.bm .append (.loc 1) (.of [.bi .len (.of [.loc 5])])), .expr (.bm .extend (.loc 1) (.of [.loc 5])), .expr (.bm .extend (.loc 1) (.of [.loc 6])), .ret (.loc 1)]
def F_letter_signs : Fn := ⟨1, 7, b_letter_signs, true⟩
def b_taken_from : Sms := .of [.ite (.cmp .gt (.bin .add (.loc 1) (.loc 2)) (.bi .len (.of [.loc 0]))) (.of [.raise 26]) .nil, .ret (.cut (.loc 0) (.loc 1) (.bin .add (.loc 1) (.loc 2)))]
def F_taken_from : Fn := ⟨3, 3, b_taken_from, true⟩
def b_letter_of : Sms := .of [.ite (.not (.call 79 (.of [.loc 0]))) (.of [.raise 26]) .nil, .set (.row [6, 7, 8, 9]) (.call 83 (.of [.loc 0, .con (.int 0), .con (.int 4)])), .set (.one 1) (.bin .fdiv (.loc 9) (.bi .len (.of [.con g_KINDS]))), .set (.one 2) (.call 83 (.of [.loc 0, .con (.int 4), .loc 1])), .set (.one 3) (.sub (.call 83 (.of [.loc 0, .bin .add (.con (.int 4)) (.loc 1), .con (.int 1)])) (.con (.int 0))), .set (.one 4) (.call 83 (.of [.loc 0, .bin .add (.con (.int 5)) (.loc 1), .loc 3])), .set (.one 5) (.cut (.loc 0) (.bin .add (.bin .add (.con (.int 5)) (.loc 1)) (.loc 3)) (.con .non)), .ret (.call 81 (.of [.bin .add (.bin .mul (.bin .add (.bin .mul (.loc 6) (.con (.int 97))) (.loc 7)) (.con (.int 97))) (.loc 8), .loc 2, .sub (.con g_KINDS) (.bin .mod (.loc 9) (.bi .len (.of [.con g_KINDS]))), .loc 4, .loc 5]))]
def F_letter_of : Fn := ⟨1, 10, b_letter_of, true⟩
def b_pieces_of : Sms := .of [.set (.one 1) (.bin .fdiv (.bin .sub (.bin .add (.bi .len (.of [.loc 0])) (.con (.int 9))) (.con (.int 1))) (.con (.int 9))), .ret (.comp (.bin .add (.lst (.of [.bin .sub (.bin .sub (.loc 1) (.con (.int 1))) (.loc 2)])) (.cut (.loc 0) (.bin .mul (.loc 2) (.con (.int 9))) (.bin .mul (.bin .add (.loc 2) (.con (.int 1))) (.con (.int 9))))) (.one 2) (.rng (.con (.int 0)) (.loc 1)) (.con (.bl true)))]
def F_pieces_of : Fn := ⟨1, 3, b_pieces_of, false⟩
def b_Joiner___init__ : Sms := .of [.fld (.loc 0) 27 (.lst .nil)]
def F_Joiner___init__ : Fn := ⟨1, 1, b_Joiner___init__, false⟩
def b_Joiner_take : Sms := .of [.ite (.or (.not (.bi .islist (.of [.loc 1]))) (.or (.cmp .lt (.bi .len (.of [.loc 1])) (.con (.int 1))) (.or (.cmp .gt (.bi .len (.of [.loc 1])) (.bin .add (.con (.int 9)) (.con (.int 1)))) (.not (.call 79 (.of [.loc 1])))))) (.of [.raise 25]) .nil, .fld (.loc 0) 27 (.bin .add (.attr (.loc 0) 27) (.cut (.loc 1) (.con (.int 1)) (.con .non))), .ite (.cmp .gt (.sub (.loc 1) (.con (.int 0))) (.con (.int 0))) (.of [.ret (.con .non)]) .nil, .set (.one 2) (.attr (.loc 0) 27), .fld (.loc 0) 27 (.lst .nil), .ret (.loc 2)]
def F_Joiner_take : Fn := ⟨2, 3, b_Joiner_take, false⟩
def b_look_signs : Sms := .of [.ite (.cmp .ne (.bi .len (.of [.loc 0])) (.loc 1)) (.of [.raise 20]) .nil, .for (.one 2) (.val (.loc 0)) (.of [.ite (.or (.cmp .lt (.loc 2) (.con (.int 0))) (.cmp .gt (.loc 2) (.con (.int 96)))) (.of [.raise 20]) .nil])]
def F_look_signs : Fn := ⟨2, 3, b_look_signs, true⟩
def b_sums_of : Sms := .of [.ret (.comp (.bin .mod (.bi .sum (.of [.comp (.bin .mul (.sub (.loc 0) (.loc 2)) (.sub (.con g_POWERS) (.bin .mod (.bin .mul (.loc 2) (.loc 1)) (.con (.int 96))))) (.one 2) (.rng (.con (.int 0)) (.bi .len (.of [.loc 0]))) (.con (.bl true))])) (.con (.int 97))) (.one 1) (.rng (.con (.int 1)) (.bin .add (.con (.int 6)) (.con (.int 1)))) (.con (.bl true)))]
def F_sums_of : Fn := ⟨1, 3, b_sums_of, true⟩
def b_sealed : Sms := .of [.expr (.call 88 (.of [.loc 0, .con (.int 18)])), .ret (.bin .add (.bi .list (.of [.loc 0])) (.comp (.bin .mod (.bi .sum (.of [.comp (.bin .mul (.sub (.loc 0) (.loc 2)) (.sub (.sub (.con g_CHECKS) (.loc 2)) (.loc 1))) (.one 2) (.rng (.con (.int 0)) (.con (.int 18))) (.con (.bl true))])) (.con (.int 97))) (.one 1) (.rng (.con (.int 0)) (.con (.int 6))) (.con (.bl true))))]
def F_sealed : Fn := ⟨1, 3, b_sealed, true⟩
def b_troubles : Sms := .of [.expr (.call 88 (.of [.loc 0, .con (.int 24)])), .ret (.call 89 (.of [.loc 0]))]
def F_troubles : Fn := ⟨1, 1, b_troubles, true⟩
def b_look_late : Sms := .of [.ite (.or (.cmp .lt (.loc 0) (.con (.int 1))) (.cmp .gt (.loc 0) (.con (.int 6)))) (.of [.raise 21]) .nil]
def F_look_late : Fn := ⟨1, 1, b_look_late, true⟩
def b_look_measure : Sms := .of [.set (.row [1, 2]) (.loc 0), .expr (.call 92 (.of [.loc 1])), .ite (.or (.cmp .lt (.loc 2) (.con (.int 0))) (.cmp .gt (.loc 2) (.con (.int 4)))) (.of [.raise 21]) .nil]
def F_look_measure : Fn := ⟨1, 3, b_look_measure, true⟩
def b_quiet_of : Sms := .of [.expr (.call 93 (.of [.loc 0])), .ret (.bin .add (.sub (.loc 0) (.con (.int 0))) (.sub (.loc 0) (.con (.int 1))))]
def F_quiet_of : Fn := ⟨1, 1, b_quiet_of, true⟩
def b_place_of : Sms := .of [.for (.one 1) (.rng (.con (.int 0)) (.con (.int 24))) (.of [.ite (.cmp .eq (.sub (.con g_POWERS) (.loc 1)) (.loc 0)) (.of [.ret (.loc 1)]) .nil]), .ret (.con .non)]
def F_place_of : Fn := ⟨1, 2, b_place_of, true⟩
def b_one_turned : Sms := .of [.ite (.cmp .isin (.con (.int 0)) (.loc 0)) (.of [.ret (.con .non)]) .nil, .set (.one 1) (.bin .mod (.bin .mul (.sub (.loc 0) (.con (.int 1))) (.call 3 (.of [.sub (.loc 0) (.con (.int 0))]))) (.con (.int 97))), .for (.one 2) (.rng (.con (.int 1)) (.bi .len (.of [.loc 0]))) (.of [.ite (.cmp .ne (.sub (.loc 0) (.loc 2)) (.bin .mod (.bin .mul (.sub (.loc 0) (.bin .sub (.loc 2) (.con (.int 1)))) (.loc 1)) (.con (.int 97)))) (.of [.ret (.con .non)]) .nil]), .set (.one 3) (.call 95 (.of [.loc 1])), .ite (.cmp .isn (.loc 3) (.con .non)) (.of [.ret (.con .non)]) .nil, .ret (.lst (.of [.tup (.of [.loc 3, .bin .mod (.bin .mul (.sub (.loc 0) (.con (.int 0))) (.call 3 (.of [.loc 1]))) (.con (.int 97))])]))]
def F_one_turned : Fn := ⟨1, 4, b_one_turned, true⟩
def b_goes_on : Sms := .of [.for (.one 3) (.rng (.con (.int 2)) (.bi .len (.of [.loc 0]))) (.of [.ite (.cmp .ne (.bin .mod (.bin .sub (.bin .sub (.bin .mul (.loc 1) (.sub (.loc 0) (.bin .sub (.loc 3) (.con (.int 1))))) (.bin .mul (.loc 2) (.sub (.loc 0) (.bin .sub (.loc 3) (.con (.int 2)))))) (.sub (.loc 0) (.loc 3))) (.con (.int 97))) (.con (.int 0))) (.of [.ret (.con (.bl false))]) .nil]), .ret (.con (.bl true))]
def F_goes_on : Fn := ⟨3, 4, b_goes_on, true⟩
def b_two_turned : Sms := .of [.set (.one 1) (.bin .mod (.bin .sub (.bin .mul (.sub (.loc 0) (.con (.int 0))) (.sub (.loc 0) (.con (.int 2)))) (.bin .mul (.sub (.loc 0) (.con (.int 1))) (.sub (.loc 0) (.con (.int 1))))) (.con (.int 97))), .ite (.cmp .eq (.loc 1) (.con (.int 0))) (.of [.ret (.con .non)]) .nil, .set (.one 2) (.call 3 (.of [.loc 1])), .set (.one 3) (.bin .mod (.bin .mul (.bin .sub (.bin .mul (.sub (.loc 0) (.con (.int 0))) (.sub (.loc 0) (.con (.int 3)))) (.bin .mul (.sub (.loc 0) (.con (.int 1))) (.sub (.loc 0) (.con (.int 2))))) (.loc 2)) (.con (.int 97))), .set (.one 4) (.bin .mod (.bin .mul (.bin .sub (.bin .mul (.sub (.loc 0) (.con (.int 1))) (.sub (.loc 0) (.con (.int 3)))) (.bin .mul (.sub (.loc 0) (.con (.int 2))) (.sub (.loc 0) (.con (.int 2))))) (.loc 2)) (.con (.int 97))), .set (.one 5) (.comp (.loc 10) (.one 10) (.rng (.con (.int 0)) (.con (.int 24))) (.cmp .eq (.bin .mod (.bin .add (.bin .sub (.bin .mul (.sub (.con g_POWERS) (.loc 10)) (.sub (.con g_POWERS) (.loc 10))) (.bin .mul (.loc 3) (.sub (.con g_POWERS) (.loc 10)))) (.loc 4)) (.con (.int 97))) (.con (.int 0)))), .ite (.or (.cmp .lt (.bi .len (.of [.loc 5])) (.con (.int 2))) (.not (.call 97 (.of [.loc 0, .loc 3, .loc 4])))) (.of [.ret (.con .non)]) .nil, .set (.row [8, 9]) (.tup (.of [.sub (.con g_POWERS) (.sub (.loc 5) (.con (.int 0))), .sub (.con g_POWERS) (.sub (.loc 5) (.con (.int 1)))])), .set (.one 6) (.bin .mod (.bin .mul (.bin .sub (.sub (.loc 0) (.con (.int 1))) (.bin .mul (.sub (.loc 0) (.con (.int 0))) (.loc 9))) (.call 3 (.of [.bin .mod (.bin .mul (.loc 8) (.bin .sub (.loc 8) (.loc 9))) (.con (.int 97))]))) (.con (.int 97))), .set (.one 7) (.bin .mod (.bin .mul (.bin .sub (.sub (.loc 0) (.con (.int 0))) (.bin .mul (.loc 6) (.loc 8))) (.call 3 (.of [.loc 9]))) (.con (.int 97))), .ret (.lst (.of [.tup (.of [.sub (.loc 5) (.con (.int 0)), .loc 6]), .tup (.of [.sub (.loc 5) (.con (.int 1)), .loc 7])]))]
def F_two_turned : Fn := ⟨1, 11, b_two_turned, true⟩
def b_mended : Sms := .of [.set (.one 1) (.call 91 (.of [.loc 0])), .set (.one 2) (.lst .nil), .ite (.cmp .ne (.loc 1) (.bin .mul (.lst (.of [.con (.int 0)])) (.bi .len (.of [.loc 1])))) (.of [.set (.one 2) (.call 96 (.of [.loc 1])), .ite (.cmp .isn (.loc 2) (.con .non)) (.of [.set (.one 2) (.call 98 (.of [.loc 1]))]) .nil]) .nil, .ite (.cmp .isn (.loc 2) (.con .non)) (.of [.ret (.con .non)]) .nil, .set (.one 3) (.bi .list (.of [.loc 0])), .for (.row [4, 5]) (.val (.loc 2)) (.of [.item (.loc 3) (.loc 4) (.bin .mod (.bin .sub (.sub (.loc 3) (.loc 4)) (.loc 5)) (.con (.int 97)))]), .ret (.loc 3)]
def F_mended : Fn := ⟨1, 6, b_mended, true⟩
def b_look_at_piece : Sms := .of [.ite (.or (.cmp .lt (.bi .len (.of [.loc 0])) (.con (.int 1))) (.cmp .gt (.bi .len (.of [.loc 0])) (.con (.int 10)))) (.of [.raise 25]) .nil, .for (.one 1) (.val (.loc 0)) (.of [.ite (.or (.cmp .lt (.loc 1) (.con (.int 0))) (.cmp .ge (.loc 1) (.con (.int 97)))) (.of [.raise 25]) .nil])]
def F_look_at_piece : Fn := ⟨1, 2, b_look_at_piece, true⟩
def b_LinkEnd___init__ : Sms := .of [.fld (.loc 0) 28 (.call 94 (.of [.loc 1])), .fld (.loc 0) 29 (.loc 2), .fld (.loc 0) 30 (.con (.int 1)), .fld (.loc 0) 31 (.con (.int 0)), .fld (.loc 0) 32 (.con .non), .fld (.loc 0) 33 (.neg (.con (.int 1))), .fld (.loc 0) 34 (.neg (.con (.int 1))), .fld (.loc 0) 35 (.lst .nil), .fld (.loc 0) 36 (.con (.int 0)), .fld (.loc 0) 37 (.con (.int 0)), .fld (.loc 0) 38 (.lst .nil)]
def F_LinkEnd___init__ : Fn := ⟨3, 3, b_LinkEnd___init__, false⟩
def b_LinkEnd_tick : Sms := .of [.fld (.loc 0) 33 (.bin .add (.attr (.loc 0) 33) (.con (.int 1))), .for (.one 2) (.val (.loc 1)) (.of [.set (.one 3) (.call 99 (.of [.loc 2])), .ite (.cmp .isnotn (.loc 3) (.con .non)) (.of [.fld (.loc 0) 34 (.attr (.loc 0) 33), .expr (.meth (.loc 0) 114 (.of [.loc 3]))]) .nil]), .ite (.and (.cmp .gt (.attr (.loc 0) 31) (.con (.int 0))) (.cmp .ge (.bin .sub (.attr (.loc 0) 33) (.attr (.loc 0) 34)) (.attr (.loc 0) 28))) (.of [.expr (.meth (.loc 0) 101 .nil)]) .nil, .ret (.call 90 (.of [.meth (.loc 0) 102 .nil]))]
def F_LinkEnd_tick : Fn := ⟨2, 4, b_LinkEnd_tick, false⟩
def b_LinkEnd_read_births : Sms := .of [.set (.one 2) (.call 7 (.of [.cut (.loc 1) (.con .non) (.con (.int 2))])), .ite (.cmp .lt (.loc 2) (.attr (.loc 0) 31)) (.of [.ret (.con .non)]) .nil, .ite (.and (.cmp .gt (.loc 2) (.attr (.loc 0) 31)) (.cmp .isnotn (.attr (.loc 0) 32) (.con .non))) (.of [.expr (.bm .append (.attr (.loc 0) 38) (.of [.tup (.of [.con (.str "anew"), .attr (.loc 0) 32])])), .expr (.meth (.loc 0) 103 .nil)]) .nil, .fld (.loc 0) 31 (.loc 2), .ite (.cmp .eq (.call 7 (.of [.cut (.loc 1) (.con (.int 2)) (.bin .mul (.con (.int 2)) (.con (.int 2)))])) (.attr (.loc 0) 30)) (.of [.ite (.cmp .isn (.attr (.loc 0) 32) (.con .non)) (.of [.expr (.meth (.loc 0) 115 .nil)]) .nil, .expr (.meth (.loc 0) 104 (.of [.cut (.loc 1) (.bin .mul (.con (.int 2)) (.con (.int 2))) (.con .non)]))]) .nil]
def F_LinkEnd_read_births : Fn := ⟨2, 3, b_LinkEnd_read_births, false⟩
def b_LinkEnd_begin_up : Sms := .of [.fld (.loc 0) 32 (.tup (.of [.attr (.loc 0) 30, .attr (.loc 0) 31])), .ite (.cmp .eq (.attr (.loc 0) 29) (.con (.int 1))) (.of [.fld (.loc 0) 32 (.tup (.of [.attr (.loc 0) 31, .attr (.loc 0) 30]))]) .nil, .fld (.loc 0) 35 (.lst .nil), .fld (.loc 0) 36 (.con (.int 0)), .fld (.loc 0) 37 (.con (.int 0)), .expr (.bm .append (.attr (.loc 0) 38) (.of [.tup (.of [.con (.str "up"), .attr (.loc 0) 32])]))]
def F_LinkEnd_begin_up : Fn := ⟨1, 1, b_LinkEnd_begin_up, false⟩
def b_LinkEnd_end_up : Sms := .of [.fld (.loc 0) 32 (.con .non), .fld (.loc 0) 35 (.lst .nil)]
def F_LinkEnd_end_up : Fn := ⟨1, 1, b_LinkEnd_end_up, false⟩
def b_LinkEnd_read_piece : Sms := .of [.set (.row [2, 3, 4]) (.cut (.loc 1) (.con .non) (.con (.int 3))), .ite (.and (.cmp .gt (.loc 4) (.con (.int 0))) (.cmp .eq (.loc 2) (.bin .mod (.attr (.loc 0) 37) (.con (.int 97))))) (.of [.fld (.loc 0) 37 (.bin .add (.attr (.loc 0) 37) (.con (.int 1))), .expr (.bm .append (.attr (.loc 0) 38) (.of [.tup (.of [.con (.str "took"), .bi .list (.of [.cut (.loc 1) (.con (.int 3)) (.bin .add (.con (.int 3)) (.loc 4))])])]))]) .nil, .ite (.and (.cmp .ne (.attr (.loc 0) 35) (.lst .nil)) (.cmp .eq (.loc 3) (.bin .mod (.bin .add (.attr (.loc 0) 36) (.con (.int 1))) (.con (.int 97))))) (.of [.fld (.loc 0) 36 (.bin .add (.attr (.loc 0) 36) (.con (.int 1))), .expr (.bm .pop (.attr (.loc 0) 35) (.of [.con (.int 0)]))]) .nil]
def F_LinkEnd_read_piece : Fn := ⟨2, 5, b_LinkEnd_read_piece, false⟩
def b_LinkEnd_fall_silent : Sms := .of [.ite (.cmp .isnotn (.attr (.loc 0) 32) (.con .non)) (.of [.expr (.bm .append (.attr (.loc 0) 38) (.of [.tup (.of [.con (.str "silent"), .attr (.loc 0) 32, .bin .add (.attr (.loc 0) 34) (.con (.int 1)), .attr (.loc 0) 33])])), .expr (.meth (.loc 0) 103 .nil)]) .nil, .fld (.loc 0) 30 (.bin .add (.attr (.loc 0) 30) (.con (.int 1))), .fld (.loc 0) 31 (.con (.int 0))]
def F_LinkEnd_fall_silent : Fn := ⟨1, 1, b_LinkEnd_fall_silent, false⟩
def b_LinkEnd_signs_now : Sms := .of [.set (.one 1) (.bin .add (.call 6 (.of [.attr (.loc 0) 30, .con (.int 2)])) (.call 6 (.of [.attr (.loc 0) 31, .con (.int 2)]))), .set (.one 2) (.lst .nil), .set (.one 3) (.con (.int 0)), .set (.one 4) (.con (.int 0)), .ite (.cmp .isnotn (.attr (.loc 0) 32) (.con .non)) (.of [.set (.one 3) (.bin .mod (.attr (.loc 0) 36) (.con (.int 97))), .set (.one 4) (.bin .mod (.attr (.loc 0) 37) (.con (.int 97))), .set (.one 2) (.cut (.attr (.loc 0) 35) (.con .non) (.con (.int 1)))]) .nil, .ite (.cmp .ne (.loc 2) (.lst .nil)) (.of [.set (.one 2) (.sub (.loc 2) (.con (.int 0)))]) .nil, .ret (.bin .add (.bin .add (.bin .add (.loc 1) (.lst (.of [.loc 3, .loc 4, .bi .len (.of [.loc 2])]))) (.loc 2)) (.bin .mul (.lst (.of [.con (.int 0)])) (.bin .sub (.bin .add (.con (.int 10)) (.con (.int 1))) (.bi .len (.of [.loc 2])))))]
def F_LinkEnd_signs_now : Fn := ⟨1, 5, b_LinkEnd_signs_now, true⟩
def b_LinkEnd_put : Sms := .of [.ite (.cmp .isn (.attr (.loc 0) 32) (.con .non)) (.of [.raise 24]) .nil, .expr (.call 100 (.of [.loc 1])), .expr (.bm .append (.attr (.loc 0) 35) (.of [.bi .list (.of [.loc 1])]))]
def F_LinkEnd_put : Fn := ⟨2, 2, b_LinkEnd_put, false⟩
def b_LinkEnd_up : Sms := .of [.ret (.attr (.loc 0) 32)]
def F_LinkEnd_up : Fn := ⟨1, 1, b_LinkEnd_up, true⟩
def b_LinkEnd_waits : Sms := .of [.ret (.bi .len (.of [.attr (.loc 0) 35]))]
def F_LinkEnd_waits : Fn := ⟨1, 1, b_LinkEnd_waits, true⟩
def b_LinkEnd_events : Sms := .of [.set (.one 1) (.attr (.loc 0) 38), .fld (.loc 0) 38 (.lst .nil), .ret (.loc 1)]
def F_LinkEnd_events : Fn := ⟨1, 2, b_LinkEnd_events, false⟩
def b_same_thing : Sms := .of [.ret (.cmp .eq (.tup (.of [.sub (.sub (.loc 0) (.con (.int 1))) (.con (.int 0)), .sub (.sub (.loc 0) (.con (.int 1))) (.neg (.con (.int 1))), .sub (.loc 0) (.con (.int 2)), .sub (.loc 0) (.con (.int 3))])) (.tup (.of [.sub (.sub (.loc 1) (.con (.int 1))) (.con (.int 0)), .sub (.sub (.loc 1) (.con (.int 1))) (.neg (.con (.int 1))), .sub (.loc 1) (.con (.int 2)), .sub (.loc 1) (.con (.int 3))])))]
def F_same_thing : Fn := ⟨2, 2, b_same_thing, true⟩
def b_with_letter : Sms := .of [.set (.one 2) (.lst .nil), .set (.one 3) (.con (.bl false)), .for (.one 4) (.val (.loc 0)) (.of [.ite (.call 113 (.of [.loc 4, .loc 1])) (.of [.ite (.cmp .gt (.sub (.loc 1) (.con (.int 0))) (.sub (.loc 4) (.con (.int 0)))) (.of [.expr (.bm .append (.loc 2) (.of [.loc 1]))]) (.of [.expr (.bm .append (.loc 2) (.of [.loc 4]))]), .set (.one 3) (.con (.bl true))]) (.of [.expr (.bm .append (.loc 2) (.of [.loc 4]))])]), .ite (.not (.loc 3)) (.of [.expr (.bm .append (.loc 2) (.of [.loc 1]))]) .nil, .ret (.loc 2)]
def F_with_letter : Fn := ⟨2, 5, b_with_letter, true⟩
def b_Queue___init__ : Sms := .of [.fld (.loc 0) 39 (.lst .nil), .fld (.loc 0) 40 (.lst .nil), .fld (.loc 0) 41 (.lst .nil), .fld (.loc 0) 42 (.lst .nil)]
def F_Queue___init__ : Fn := ⟨1, 1, b_Queue___init__, false⟩
def b_Queue_put : Sms := .of [.ite (.cmp .eq (.sub (.loc 1) (.con (.int 2))) (.con (.str "news"))) (.of [.fld (.loc 0) 39 (.call 114 (.of [.attr (.loc 0) 39, .loc 1]))]) (.of [.fld (.loc 0) 40 (.call 114 (.of [.attr (.loc 0) 40, .loc 1]))])]
def F_Queue_put : Fn := ⟨2, 2, b_Queue_put, false⟩
def b_Queue_take_next : Sms := .of [.ite (.cmp .ne (.attr (.loc 0) 39) (.lst .nil)) (.of [.fld (.loc 0) 41 (.cut (.attr (.loc 0) 39) (.con .non) (.con (.int 1))), .fld (.loc 0) 39 (.cut (.attr (.loc 0) 39) (.con (.int 1)) (.con .non))]) (.of [.fld (.loc 0) 41 (.cut (.attr (.loc 0) 40) (.con .non) (.con (.int 1))), .fld (.loc 0) 40 (.cut (.attr (.loc 0) 40) (.con (.int 1)) (.con .non))]), .for (.one 1) (.val (.attr (.loc 0) 41)) (.of [.fld (.loc 0) 42 (.call 85 (.of [.call 82 (.of [.loc 1])]))])]
def F_Queue_take_next : Fn := ⟨1, 2, b_Queue_take_next, false⟩
def b_Queue_next_piece : Sms := .of [.ite (.cmp .eq (.attr (.loc 0) 42) (.lst .nil)) (.of [.expr (.meth (.loc 0) 105 .nil)]) .nil, .ite (.cmp .eq (.attr (.loc 0) 42) (.lst .nil)) (.of [.ret (.con .non)]) .nil, .set (.one 1) (.sub (.attr (.loc 0) 42) (.con (.int 0))), .fld (.loc 0) 42 (.cut (.attr (.loc 0) 42) (.con (.int 1)) (.con .non)), .ite (.cmp .eq (.attr (.loc 0) 42) (.lst .nil)) (.of [.fld (.loc 0) 41 (.lst .nil)]) .nil, .ret (.loc 1)]
def F_Queue_next_piece : Fn := ⟨1, 2, b_Queue_next_piece, false⟩
def b_Queue_waiting : Sms := .of [.ret (.bin .add (.bin .add (.attr (.loc 0) 41) (.attr (.loc 0) 39)) (.attr (.loc 0) 40))]
def F_Queue_waiting : Fn := ⟨1, 1, b_Queue_waiting, true⟩
def b_Queue_clear : Sms := .of [.set (.one 1) (.meth (.loc 0) 70 .nil), .fld (.loc 0) 39 (.lst .nil), .fld (.loc 0) 40 (.lst .nil), .fld (.loc 0) 41 (.lst .nil), .fld (.loc 0) 42 (.lst .nil), .ret (.loc 1)]
def F_Queue_clear : Fn := ⟨1, 2, b_Queue_clear, false⟩
def b_ask_house : Sms := .of [.ite (.or (.cmp .lt (.loc 0) (.con (.int 0))) (.cmp .gt (.loc 0) (.con (.int 31)))) (.of [.raise 28]) .nil]
def F_ask_house : Fn := ⟨1, 1, b_ask_house, true⟩
def b_ask_name : Sms := .of [.ite (.or (.cmp .lt (.bi .len (.of [.loc 0])) (.con (.int 1))) (.cmp .gt (.bi .len (.of [.loc 0])) (.con (.int 4)))) (.of [.raise 29]) .nil, .for (.one 1) (.val (.loc 0)) (.of [.ite (.cmp .notin (.loc 1) (.con (.str "abcdefghijklmnopqrstuvwxyz"))) (.of [.raise 29]) .nil])]
def F_ask_name : Fn := ⟨1, 2, b_ask_name, true⟩
def b_Wire___init__ : Sms := .of [.fld (.loc 0) 43 (.loc 1), .fld (.loc 0) 44 (.bin .add (.sub (.loc 2) (.con (.int 0))) (.sub (.loc 2) (.con (.int 1)))), .fld (.loc 0) 45 (.make 8 (.of [.loc 2, .loc 3])), .fld (.loc 0) 46 (.make 9 .nil), .fld (.loc 0) 47 (.make 7 .nil), .fld (.loc 0) 48 (.lst .nil), .fld (.loc 0) 49 (.con (.bl false))]
def F_Wire___init__ : Fn := ⟨4, 4, b_Wire___init__, false⟩
def b_Wire_let_go : Sms := .of [.expr (.meth (.attr (.loc 0) 46) 71 .nil), .fld (.loc 0) 47 (.make 7 .nil), .fld (.loc 0) 48 (.lst .nil), .fld (.loc 0) 49 (.con (.bl false))]
def F_Wire_let_go : Fn := ⟨1, 1, b_Wire_let_go, false⟩
def b_Wire_is_ready : Sms := .of [.ite (.or (.cmp .isn (.meth (.attr (.loc 0) 45) 116 .nil) (.con .non)) (.cmp .ge (.meth (.attr (.loc 0) 45) 117 .nil) (.con (.int 2)))) (.of [.ret (.con (.bl false))]) .nil, .ret (.or (.cmp .eq (.bi .len (.of [.attr (.loc 0) 48])) (.con (.int 0))) (.not (.sub (.attr (.loc 0) 48) (.neg (.con (.int 1))))))]
def F_Wire_is_ready : Fn := ⟨1, 1, b_Wire_is_ready, true⟩
def b_Wire_feed : Sms := .of [.whl (.meth (.loc 0) 72 .nil) (.of [.set (.one 1) (.bi .len (.of [.meth (.attr (.loc 0) 46) 70 .nil])), .set (.one 2) (.meth (.attr (.loc 0) 46) 106 .nil), .ite (.cmp .isn (.loc 2) (.con .non)) (.of [.ret (.con .non)]) .nil, .expr (.meth (.attr (.loc 0) 45) 73 (.of [.loc 2])), .expr (.bm .append (.attr (.loc 0) 48) (.of [.cmp .lt (.bi .len (.of [.meth (.attr (.loc 0) 46) 70 .nil])) (.loc 1)]))])]
def F_Wire_feed : Fn := ⟨1, 3, b_Wire_feed, false⟩
def b_Wire_carry : Sms := .of [.expr (.meth (.attr (.loc 0) 46) 73 (.of [.loc 1])), .expr (.meth (.loc 0) 74 .nil)]
def F_Wire_carry : Fn := ⟨2, 2, b_Wire_carry, false⟩
def b_Wire_run : Sms := .of [.set (.one 2) (.meth (.attr (.loc 0) 45) 75 (.of [.loc 1])), .ret (.tup (.of [.loc 2, .meth (.attr (.loc 0) 45) 107 .nil]))]
def F_Wire_run : Fn := ⟨2, 3, b_Wire_run, false⟩
def b_Wire_letters_in : Sms := .of [.set (.one 2) (.lst .nil), .for (.one 3) (.val (.loc 1)) (.of [.ite (.cmp .eq (.sub (.loc 3) (.con (.int 0))) (.con (.str "took"))) (.of [.set (.one 4) (.meth (.attr (.loc 0) 47) 118 (.of [.sub (.loc 3) (.con (.int 1))])), .ite (.cmp .isnotn (.loc 4) (.con .non)) (.of [.expr (.bm .append (.loc 2) (.of [.call 84 (.of [.loc 4])]))]) .nil]) (.of [.expr (.meth (.loc 0) 119 .nil), .fld (.loc 0) 49 (.cmp .eq (.sub (.loc 3) (.con (.int 0))) (.con (.str "up")))])]), .ret (.loc 2)]
def F_Wire_letters_in : Fn := ⟨2, 5, b_Wire_letters_in, false⟩
def b_Wire_settle : Sms := .of [.fld (.loc 0) 48 (.cut (.attr (.loc 0) 48) (.bin .sub (.bi .len (.of [.attr (.loc 0) 48])) (.meth (.attr (.loc 0) 45) 117 .nil)) (.con .non))]
def F_Wire_settle : Fn := ⟨1, 1, b_Wire_settle, false⟩
def b_Wire_many_waiting : Sms := .of [.ret (.bin .add (.bi .len (.of [.meth (.attr (.loc 0) 46) 70 .nil])) (.bi .len (.of [.comp (.loc 1) (.one 1) (.val (.attr (.loc 0) 48)) (.loc 1)])))]
def F_Wire_many_waiting : Fn := ⟨1, 2, b_Wire_many_waiting, true⟩
def b_Post___init__ : Sms := .of [.expr (.call 121 (.of [.loc 1])), .ite (.cmp .gt (.bi .len (.of [.loc 2])) (.con (.int 5))) (.of [.raise 28]) .nil, .set (.one 3) (.disp (.of [.loc 1, .con (.bl true)])), .for (.row [4, 5, 6]) (.val (.loc 2)) (.of [.expr (.call 121 (.of [.loc 4])), .ite (.cmp .isin (.loc 4) (.loc 3)) (.of [.raise 28]) .nil, .item (.loc 3) (.loc 4) (.con (.bl true))]), .fld (.loc 0) 50 (.loc 1), .fld (.loc 0) 51 (.comp (.make 10 (.of [.loc 4, .loc 5, .loc 6])) (.row [4, 5, 6]) (.val (.loc 2)) (.con (.bl true))), .fld (.loc 0) 52 (.con (.int 0)), .fld (.loc 0) 53 (.con (.int 0)), .fld (.loc 0) 54 (.lst .nil), .fld (.loc 0) 55 (.make 1 .nil), .fld (.loc 0) 56 (.con (.int 0)), .expr (.meth (.attr (.loc 0) 55) 76 (.of [.call 12 (.of [.loc 1, .con (.int 0), .lst .nil, .lst .nil])])), .fld (.loc 0) 57 (.lst .nil), .fld (.loc 0) 58 (.lst .nil), .fld (.loc 0) 59 (.lst .nil), .fld (.loc 0) 60 (.con (.bl false))]
def F_Post___init__ : Fn := ⟨3, 7, b_Post___init__, false⟩
def b_Post_row_tick : Sms := .of [.ret (.bi .max (.of [.con (.int 0), .bin .sub (.attr (.loc 0) 52) (.con (.int 1))]))]
def F_Post_row_tick : Fn := ⟨1, 1, b_Post_row_tick, true⟩
def b_Post_enter : Sms := .of [.expr (.bm .append (.attr (.loc 0) 58) (.of [.tup (.of [.meth (.loc 0) 120 .nil, .loc 1, .loc 2])]))]
def F_Post_enter : Fn := ⟨3, 3, b_Post_enter, false⟩
def b_Post_own_letter : Sms := .of [.set (.one 5) (.call 81 (.of [.attr (.loc 0) 53, .loc 1, .loc 2, .loc 3, .loc 4])), .fld (.loc 0) 53 (.bin .add (.attr (.loc 0) 53) (.con (.int 1))), .ret (.loc 5)]
def F_Post_own_letter : Fn := ⟨5, 6, b_Post_own_letter, false⟩
def b_Post_tell_news : Sms := .of [.expr (.meth (.loc 1) 77 (.of [.meth (.loc 0) 82 (.of [.tup (.of [.attr (.loc 0) 50, .attr (.loc 1) 43]), .con (.str "news"), .tup (.of [.sub (.loc 2) (.con (.int 0))]), .call 15 (.of [.loc 2])])]))]
def F_Post_tell_news : Fn := ⟨3, 3, b_Post_tell_news, false⟩
def b_Post_spread : Sms := .of [.for (.one 3) (.val (.attr (.loc 0) 51)) (.of [.ite (.and (.cmp .ne (.attr (.loc 3) 43) (.loc 2)) (.cmp .isnotn (.meth (.attr (.loc 3) 45) 116 .nil) (.con .non))) (.of [.expr (.meth (.loc 0) 121 (.of [.loc 3, .loc 1]))]) .nil])]
def F_Post_spread : Fn := ⟨3, 4, b_Post_spread, false⟩
def b_Post_renew : Sms := .of [.set (.one 1) (.comp (.tup (.of [.attr (.loc 3) 43, .attr (.loc 3) 44, .meth (.attr (.loc 3) 45) 116 .nil])) (.one 3) (.val (.attr (.loc 0) 51)) (.cmp .isnotn (.meth (.attr (.loc 3) 45) 116 .nil) (.con .non))), .fld (.loc 0) 56 (.bin .add (.attr (.loc 0) 56) (.con (.int 1))), .set (.one 2) (.call 12 (.of [.attr (.loc 0) 50, .attr (.loc 0) 56, .loc 1, .attr (.loc 0) 54])), .expr (.meth (.attr (.loc 0) 55) 76 (.of [.loc 2])), .fld (.loc 0) 60 (.con (.bl true)), .expr (.meth (.loc 0) 78 (.of [.loc 2, .con .non]))]
def F_Post_renew : Fn := ⟨1, 4, b_Post_renew, false⟩
def b_Post_pass_on : Sms := .of [.set (.one 2) (.sub (.loc 1) (.con (.int 1))), .ite (.cmp .eq (.sub (.loc 2) (.neg (.con (.int 1)))) (.attr (.loc 0) 50)) (.of [.expr (.bm .append (.attr (.loc 0) 57) (.of [.loc 1])), .ret (.con .non)]) .nil, .set (.one 3) (.sub (.loc 2) (.bin .add (.bm .index (.loc 2) (.of [.attr (.loc 0) 50])) (.con (.int 1)))), .for (.one 4) (.val (.attr (.loc 0) 51)) (.of [.ite (.and (.cmp .eq (.attr (.loc 4) 43) (.loc 3)) (.cmp .isnotn (.meth (.attr (.loc 4) 45) 116 .nil) (.con .non))) (.of [.expr (.meth (.loc 0) 79 (.of [.con (.str "gone"), .loc 1])), .expr (.meth (.loc 4) 77 (.of [.loc 1]))]) .nil])]
def F_Post_pass_on : Fn := ⟨2, 5, b_Post_pass_on, false⟩
def b_Post_letter_came : Sms := .of [.ite (.cmp .eq (.sub (.loc 2) (.con (.int 2))) (.con (.str "news"))) (.of [.set (.one 3) (.call 20 (.of [.sub (.loc 2) (.con (.int 4))])), .ite (.meth (.attr (.loc 0) 55) 76 (.of [.loc 3])) (.of [.fld (.loc 0) 60 (.con (.bl true)), .expr (.meth (.loc 0) 78 (.of [.loc 3, .attr (.loc 1) 43]))]) .nil, .ret (.con .non)]) .nil, .expr (.meth (.loc 0) 79 (.of [.con (.str "came"), .loc 2])), .expr (.meth (.loc 0) 80 (.of [.loc 2]))]
def F_Post_letter_came : Fn := ⟨3, 4, b_Post_letter_came, false⟩
def b_Post_ups_changed : Sms := .of [.set (.one 3) (.comp (.loc 4) (.one 4) (.val (.loc 2)) (.cmp .ne (.sub (.loc 4) (.con (.int 0))) (.con (.str "took")))), .for (.one 4) (.val (.loc 3)) (.of [.expr (.bm .append (.attr (.loc 0) 59) (.of [.tup (.of [.meth (.loc 0) 120 .nil, .attr (.loc 1) 43, .loc 4])]))]), .ret (.cmp .gt (.bi .len (.of [.loc 3])) (.con (.int 0)))]
def F_Post_ups_changed : Fn := ⟨3, 5, b_Post_ups_changed, false⟩
def b_Post_greet : Sms := .of [.for (.one 1) (.val (.attr (.loc 0) 51)) (.of [.ite (.and (.attr (.loc 1) 49) (.cmp .isnotn (.meth (.attr (.loc 1) 45) 116 .nil) (.con .non))) (.of [.for (.one 2) (.val (.meth (.attr (.loc 0) 55) 122 .nil)) (.of [.ite (.cmp .ne (.sub (.loc 2) (.con (.int 0))) (.attr (.loc 0) 50)) (.of [.expr (.meth (.loc 0) 121 (.of [.loc 1, .loc 2]))]) .nil])]) .nil, .fld (.loc 1) 49 (.con (.bl false))])]
def F_Post_greet : Fn := ⟨1, 3, b_Post_greet, false⟩
def b_Post_number : Sms := .of [.ret (.attr (.loc 0) 50)]
def F_Post_number : Fn := ⟨1, 1, b_Post_number, true⟩
def b_Post_tick : Sms := .of [.fld (.loc 0) 52 (.bin .add (.attr (.loc 0) 52) (.con (.int 1))), .set (.one 2) (.comp (.meth (.loc 5) 108 (.of [.loc 8])) (.row [5, 8]) (.zip (.attr (.loc 0) 51) (.loc 1)) (.con (.bl true))), .set (.one 3) (.lst .nil), .set (.one 4) (.con (.bl false)), .for (.row [5, 6]) (.zip (.attr (.loc 0) 51) (.loc 2)) (.of [.expr (.bm .extend (.loc 3) (.of [.comp (.tup (.of [.loc 5, .loc 7])) (.one 7) (.val (.meth (.loc 5) 128 (.of [.sub (.loc 6) (.con (.int 1))]))) (.con (.bl true))])), .expr (.meth (.loc 5) 109 .nil), .set (.one 4) (.or (.meth (.loc 0) 123 (.of [.loc 5, .sub (.loc 6) (.con (.int 1))])) (.loc 4))]), .ite (.loc 4) (.of [.expr (.meth (.loc 0) 83 .nil)]) .nil, .expr (.meth (.loc 0) 81 .nil), .for (.row [5, 7]) (.val (.loc 3)) (.of [.expr (.meth (.loc 0) 110 (.of [.loc 5, .loc 7]))]), .for (.one 5) (.val (.attr (.loc 0) 51)) (.of [.expr (.meth (.loc 5) 74 .nil)]), .ret (.comp (.sub (.loc 6) (.con (.int 0))) (.one 6) (.val (.loc 2)) (.con (.bl true)))]
def F_Post_tick : Fn := ⟨2, 9, b_Post_tick, false⟩
def b_Post_post : Sms := .of [.expr (.call 121 (.of [.loc 1])), .expr (.call 81 (.of [.con (.int 0), .tup (.of [.attr (.loc 0) 50]), .loc 2, .loc 3, .loc 4])), .ite (.cmp .eq (.loc 2) (.con (.str "news"))) (.of [.raise 26]) .nil, .set (.one 5) (.call 30 (.of [.attr (.loc 0) 55, .attr (.loc 0) 50, .loc 1])), .ite (.cmp .eq (.sub (.loc 5) (.con (.int 0))) (.con (.str "side"))) (.of [.ret (.con .non)]) .nil, .set (.one 6) (.meth (.loc 0) 82 (.of [.sub (.loc 5) (.con (.int 1)), .loc 2, .loc 3, .loc 4])), .expr (.meth (.loc 0) 79 (.of [.con (.str "put"), .loc 6])), .ite (.cmp .eq (.loc 1) (.attr (.loc 0) 50)) (.of [.expr (.bm .append (.attr (.loc 0) 57) (.of [.loc 6]))]) .nil, .for (.one 7) (.val (.attr (.loc 0) 51)) (.of [.ite (.and (.cmp .gt (.bi .len (.of [.sub (.loc 6) (.con (.int 1))])) (.con (.int 1))) (.cmp .eq (.attr (.loc 7) 43) (.sub (.sub (.loc 6) (.con (.int 1))) (.con (.int 1))))) (.of [.expr (.meth (.loc 7) 77 (.of [.loc 6]))]) .nil]), .ret (.loc 6)]
def F_Post_post : Fn := ⟨5, 8, b_Post_post, false⟩
def b_Post_came : Sms := .of [.set (.one 1) (.attr (.loc 0) 57), .fld (.loc 0) 57 (.lst .nil), .ret (.loc 1)]
def F_Post_came : Fn := ⟨1, 2, b_Post_came, false⟩
def b_Post_grew : Sms := .of [.set (.one 1) (.attr (.loc 0) 60), .fld (.loc 0) 60 (.con (.bl false)), .ret (.loc 1)]
def F_Post_grew : Fn := ⟨1, 2, b_Post_grew, false⟩
def b_Post_take_name : Sms := .of [.expr (.call 122 (.of [.loc 1])), .ite (.or (.cmp .isin (.loc 1) (.attr (.loc 0) 54)) (.cmp .ge (.bi .len (.of [.attr (.loc 0) 54])) (.con (.int 4)))) (.of [.raise 29]) .nil, .fld (.loc 0) 54 (.bi .sorted (.of [.bin .add (.attr (.loc 0) 54) (.lst (.of [.loc 1]))])), .expr (.meth (.loc 0) 83 .nil)]
def F_Post_take_name : Fn := ⟨2, 2, b_Post_take_name, false⟩
def b_Post_drop_name : Sms := .of [.ite (.cmp .notin (.loc 1) (.attr (.loc 0) 54)) (.of [.raise 29]) .nil, .fld (.loc 0) 54 (.comp (.loc 2) (.one 2) (.val (.attr (.loc 0) 54)) (.cmp .ne (.loc 2) (.loc 1))), .expr (.meth (.loc 0) 83 .nil)]
def F_Post_drop_name : Fn := ⟨2, 3, b_Post_drop_name, false⟩
def b_Post_map_now : Sms := .of [.ret (.meth (.attr (.loc 0) 55) 84 .nil)]
def F_Post_map_now : Fn := ⟨1, 1, b_Post_map_now, false⟩
def b_Post_book : Sms := .of [.ret (.bi .list (.of [.attr (.loc 0) 58]))]
def F_Post_book : Fn := ⟨1, 1, b_Post_book, true⟩
def b_Post_waiting : Sms := .of [.ret (.bi .sum (.of [.comp (.meth (.loc 1) 124 .nil) (.one 1) (.val (.attr (.loc 0) 51)) (.con (.bl true))]))]
def F_Post_waiting : Fn := ⟨1, 2, b_Post_waiting, true⟩
def b_Post_events : Sms := .of [.ret (.bi .list (.of [.attr (.loc 0) 59]))]
def F_Post_events : Fn := ⟨1, 1, b_Post_events, true⟩
def b_letter_of_sign : Sms := .of [.ite (.or (.cmp .lt (.loc 0) (.con (.int 0))) (.or (.cmp .gt (.loc 0) (.con (.int 95))) (.cmp .eq (.loc 0) (.con (.int 5))))) (.of [.raise 19]) .nil, .ite (.cmp .lt (.loc 0) (.con (.int 5))) (.of [.ret (.sub (.con (.str " !\"#$&'()*+,-./0123456789:;<=>?@ABCDEFGHIJKLMNOPQRSTUVWXYZ[\\]^_`abcdefghijklmnopqrstuvwxyz{|}~\n")) (.loc 0))]) .nil, .ret (.sub (.con (.str " !\"#$&'()*+,-./0123456789:;<=>?@ABCDEFGHIJKLMNOPQRSTUVWXYZ[\\]^_`abcdefghijklmnopqrstuvwxyz{|}~\n")) (.bin .sub (.loc 0) (.con (.int 1))))]
def F_letter_of_sign : Fn := ⟨1, 1, b_letter_of_sign, true⟩
def b_signs_text : Sms := .of [.ret (.bm .join (.con (.str "")) (.of [.comp (.call 154 (.of [.loc 1])) (.one 1) (.val (.loc 0)) (.con (.bl true))]))]
def F_signs_text : Fn := ⟨1, 2, b_signs_text, true⟩
def b_Reader___init__ : Sms := .of [.fld (.loc 0) 129 (.lst .nil), .fld (.loc 0) 130 (.con (.int 0)), .fld (.loc 0) 131 (.dict false), .fld (.loc 0) 10 (.con (.bl false))]
def F_Reader___init__ : Fn := ⟨1, 1, b_Reader___init__, false⟩
def b_Reader_take : Sms := .of [.ite (.cmp .ge (.loc 1) (.attr (.loc 0) 130)) (.of [.item (.attr (.loc 0) 131) (.loc 1) (.bi .tuple (.of [.loc 2]))]) .nil, .whl (.cmp .isin (.attr (.loc 0) 130) (.attr (.loc 0) 131)) (.of [.set (.one 3) (.bm .pop (.attr (.loc 0) 131) (.of [.attr (.loc 0) 130])), .expr (.bm .extend (.attr (.loc 0) 129) (.of [.cut (.loc 3) (.con (.int 1)) (.con .non)])), .fld (.loc 0) 10 (.cmp .eq (.sub (.loc 3) (.con (.int 0))) (.con (.int 1))), .fld (.loc 0) 130 (.bin .add (.attr (.loc 0) 130) (.con (.int 1)))]), .ret (.attr (.loc 0) 130)]
def F_Reader_take : Fn := ⟨3, 4, b_Reader_take, false⟩
def b_Reader_text : Sms := .of [.ret (.call 155 (.of [.attr (.loc 0) 129]))]
def F_Reader_text : Fn := ⟨1, 1, b_Reader_text, true⟩
def b_Reader_ended : Sms := .of [.ret (.attr (.loc 0) 10)]
def F_Reader_ended : Fn := ⟨1, 1, b_Reader_ended, true⟩
def b_whole_number : Sms := .of [.set (.one 1) (.loc 0), .ite (.cmp .eq (.cut (.loc 0) (.con .non) (.con (.int 1))) (.con (.str "-"))) (.of [.set (.one 1) (.cut (.loc 0) (.con (.int 1)) (.con .non))]) .nil, .ite (.or (.cmp .eq (.loc 1) (.con (.str ""))) (.and (.cmp .eq (.sub (.loc 1) (.con (.int 0))) (.con (.str "0"))) (.cmp .ne (.loc 0) (.con (.str "0"))))) (.of [.ret (.con .non)]) .nil, .for (.one 2) (.val (.loc 1)) (.of [.ite (.cmp .notin (.loc 2) (.con (.str "0123456789"))) (.of [.ret (.con .non)]) .nil]), .ret (.bi .int (.of [.loc 0]))]
def F_whole_number : Fn := ⟨1, 3, b_whole_number, true⟩
def b_is_value : Sms := .of [.ite (.not (.cmp2 .le .le (.con (.int 1)) (.bi .len (.of [.loc 0])) (.con (.int 4)))) (.of [.ret (.con (.bl false))]) .nil, .ret (.bi .all (.of [.comp (.cmp .isin (.loc 1) (.con (.str "abcdefghijklmnopqrstuvwxyz0123456789"))) (.one 1) (.val (.loc 0)) (.con (.bl true))]))]
def F_is_value : Fn := ⟨1, 2, b_is_value, true⟩
def b_is_added : Sms := .of [.ret (.and (.cmp .le (.bi .len (.of [.bm .replace (.loc 0) (.of [.con (.str "-"), .con (.str "")])])) (.con (.int 6))) (.cmp .isnotn (.call 160 (.of [.loc 0])) (.con .non)))]
def F_is_added : Fn := ⟨1, 1, b_is_added, true⟩
def b_ReadRow___init__ : Sms := .of [.fld (.loc 0) 68 (.make 12 .nil), .fld (.loc 0) 132 (.con (.int 0))]
def F_ReadRow___init__ : Fn := ⟨1, 1, b_ReadRow___init__, false⟩
def b_DoneRow___init__ : Sms := .of [.fld (.loc 0) 18 (.loc 1), .fld (.loc 0) 127 (.con (.bl false))]
def F_DoneRow___init__ : Fn := ⟨2, 2, b_DoneRow___init__, false⟩
def b_look_turns : Sms := .of [.ite (.cmp .gt (.bi .len (.of [.loc 0])) (.con (.int 4))) (.of [.raise 22]) .nil, .set (.one 1) (.neg (.con (.int 1))), .for (.row [2, 3]) (.val (.loc 0)) (.of [.ite (.or (.cmp .le (.loc 2) (.loc 1)) (.or (.cmp .ge (.loc 2) (.con (.int 24))) (.or (.cmp .lt (.loc 3) (.con (.int 1))) (.cmp .gt (.loc 3) (.con (.int 96)))))) (.of [.raise 22]) .nil, .set (.one 1) (.loc 2)])]
def F_look_turns : Fn := ⟨1, 4, b_look_turns, true⟩
def b_look_fate : Sms := .of [.ite (.cmp .gt (.bi .len (.of [.loc 0])) (.con (.int 3))) (.of [.raise 22]) .nil, .for (.row [2, 3]) (.val (.loc 0)) (.of [.ite (.or (.cmp .lt (.loc 2) (.con (.int 1))) (.cmp .gt (.loc 2) (.loc 1))) (.of [.raise 22]) .nil, .expr (.call 165 (.of [.loc 3]))])]
def F_look_fate : Fn := ⟨2, 4, b_look_fate, true⟩
def b_look_cell : Sms := .of [.ite (.or (.cmp .ne (.bi .len (.of [.loc 0])) (.con (.int 24))) (.or (.cmp .lt (.bi .min (.of [.loc 0])) (.con (.int 0))) (.cmp .gt (.bi .max (.of [.loc 0])) (.con (.int 96))))) (.of [.raise 20]) .nil]
def F_look_cell : Fn := ⟨1, 1, b_look_cell, true⟩
def b_turned_cell : Sms := .of [.set (.one 2) (.bi .list (.of [.loc 0])), .for (.row [3, 4]) (.val (.loc 1)) (.of [.item (.loc 2) (.loc 3) (.bin .mod (.bin .add (.sub (.loc 2) (.loc 3)) (.loc 4)) (.bin .add (.con (.int 96)) (.con (.int 1))))]), .ret (.loc 2)]
def F_turned_cell : Fn := ⟨2, 5, b_turned_cell, true⟩
def b_Air___init__ : Sms := .of [.expr (.call 92 (.of [.loc 1])), .fld (.loc 0) 154 (.loc 1), .fld (.loc 0) 155 (.dict false)]
def F_Air___init__ : Fn := ⟨2, 2, b_Air___init__, false⟩
def b_Air_give : Sms := .of [.expr (.call 167 (.of [.loc 1])), .expr (.call 166 (.of [.loc 2, .attr (.loc 0) 154])), .for (.row [4, 5]) (.val (.loc 2)) (.of [.set (.one 6) (.bin .add (.loc 3) (.loc 4)), .ite (.cmp .notin (.loc 6) (.attr (.loc 0) 155)) (.of [.item (.attr (.loc 0) 155) (.loc 6) (.lst .nil)]) .nil, .expr (.bm .append (.sub (.attr (.loc 0) 155) (.loc 6)) (.of [.call 168 (.of [.loc 1, .loc 5])]))])]
def F_Air_give : Fn := ⟨4, 7, b_Air_give, false⟩
def b_Air_come : Sms := .of [.ret (.bm .pop (.attr (.loc 0) 155) (.of [.loc 1, .lst .nil]))]
def F_Air_come : Fn := ⟨2, 2, b_Air_come, false⟩
def b_Air_flying : Sms := .of [.expr .no]
def F_Air_flying : Fn := ⟨1, 1, b_Air_flying, true⟩
def b_look_wire : Sms := .of [.set (.row [4, 5, 6, 7]) (.loc 0), .ite (.or (.cmp .lt (.loc 4) (.con (.int 0))) (.or (.cmp .ge (.loc 4) (.loc 1)) (.or (.cmp .lt (.loc 5) (.con (.int 0))) (.or (.cmp .ge (.loc 5) (.loc 1)) (.cmp .eq (.loc 4) (.loc 5)))))) (.of [.raise 32]) .nil, .for (.one 3) (.val (.loc 2)) (.of [.ite (.cmp .eq (.bi .sorted (.of [.cut (.loc 3) (.con .non) (.con (.int 2))])) (.bi .sorted (.of [.lst (.of [.loc 4, .loc 5])]))) (.of [.raise 32]) .nil]), .tri (.of [.expr (.call 94 (.of [.tup (.of [.loc 6, .loc 7])]))])]
def F_look_wire : Fn := ⟨3, 8, b_look_wire, true⟩
def b_look_net : Sms := .of [.ite (.or (.cmp .lt (.loc 0) (.con (.int 1))) (.cmp .gt (.loc 0) (.con (.int 6)))) (.of [.raise 32]) .nil, .for (.one 2) (.rng (.con (.int 0)) (.bi .len (.of [.loc 1]))) (.of [.expr (.call 173 (.of [.sub (.loc 1) (.loc 2), .loc 0, .cut (.loc 1) (.con .non) (.loc 2)]))])]
def F_look_net : Fn := ⟨2, 3, b_look_net, true⟩
def b_wires_of : Sms := .of [.set (.one 2) (.lst .nil), .for (.row [3, 4, 5, 6]) (.val (.loc 1)) (.of [.ite (.cmp .eq (.loc 0) (.loc 3)) (.of [.expr (.bm .append (.loc 2) (.of [.tup (.of [.loc 4, .tup (.of [.loc 5, .loc 6]), .con (.int 0)])]))]) .nil, .ite (.cmp .eq (.loc 0) (.loc 4)) (.of [.expr (.bm .append (.loc 2) (.of [.tup (.of [.loc 3, .tup (.of [.loc 5, .loc 6]), .con (.int 1)])]))]) .nil]), .ret (.loc 2)]
def F_wires_of : Fn := ⟨2, 7, b_wires_of, true⟩
def b_told_fate : Sms := .of [.tri (.of [.expr (.call 166 (.of [.loc 0, .loc 1]))]), .ret (.con (.bl true))]
def F_told_fate : Fn := ⟨2, 2, b_told_fate, true⟩
def b_Net___init__ : Sms := .of [.expr (.call 174 (.of [.loc 1, .loc 2])), .fld (.loc 0) 156 (.comp (.bi .tuple (.of [.loc 9])) (.one 9) (.val (.loc 2)) (.con (.bl true))), .fld (.loc 0) 157 (.lst .nil), .fld (.loc 0) 158 (.lst .nil), .for (.one 3) (.rng (.con (.int 0)) (.loc 1)) (.of [.set (.one 4) (.make 11 (.of [.loc 3, .call 175 (.of [.loc 3, .attr (.loc 0) 156])])), .expr (.bm .append (.attr (.loc 0) 157) (.of [.loc 4])), .expr (.bm .append (.attr (.loc 0) 158) (.of [.make 6 (.of [.loc 4])]))]), .fld (.loc 0) 159 (.dict true), .for (.row [5, 6, 7, 8]) (.val (.attr (.loc 0) 156)) (.of [.item (.attr (.loc 0) 159) (.tup (.of [.loc 5, .loc 6])) (.make 15 (.of [.loc 7])), .item (.attr (.loc 0) 159) (.tup (.of [.loc 6, .loc 5])) (.make 15 (.of [.loc 7]))]), .fld (.loc 0) 160 (.con (.int 0))]
def F_Net___init__ : Fn := ⟨3, 10, b_Net___init__, false⟩
def b_Net_look_fates : Sms := .of [.for (.one 2) (.val (.loc 1)) (.of [.ite (.cmp .notin (.loc 2) (.attr (.loc 0) 159)) (.of [.raise 32]) .nil]), .for (.row [3, 4, 5, 6]) (.val (.attr (.loc 0) 156)) (.of [.for (.one 2) (.val (.lst (.of [.tup (.of [.loc 3, .loc 4]), .tup (.of [.loc 4, .loc 3])]))) (.of [.ite (.not (.call 176 (.of [.bm .get (.loc 1) (.of [.loc 2, .con g_PLAIN]), .loc 5]))) (.of [.raise 22]) .nil])])]
def F_Net_look_fates : Fn := ⟨2, 7, b_Net_look_fates, true⟩
def b_Net_tick : Sms := .of [.expr (.meth (.loc 0) 161 (.of [.loc 1])), .set (.one 2) (.lst .nil), .for (.one 3) (.rng (.con (.int 0)) (.bi .len (.of [.attr (.loc 0) 157]))) (.of [.set (.one 5) (.call 175 (.of [.loc 3, .attr (.loc 0) 156])), .expr (.bm .append (.loc 2) (.of [.comp (.meth (.sub (.attr (.loc 0) 159) (.tup (.of [.sub (.loc 8) (.con (.int 0)), .loc 3]))) 169 (.of [.attr (.loc 0) 160])) (.one 8) (.val (.loc 5)) (.con (.bl true))]))]), .for (.one 3) (.rng (.con (.int 0)) (.bi .len (.of [.attr (.loc 0) 157]))) (.of [.set (.one 6) (.meth (.sub (.attr (.loc 0) 157) (.loc 3)) 75 (.of [.sub (.loc 2) (.loc 3)])), .for (.row [7, 8]) (.zip (.loc 6) (.call 175 (.of [.loc 3, .attr (.loc 0) 156]))) (.of [.set (.one 9) (.tup (.of [.loc 3, .sub (.loc 8) (.con (.int 0))])), .expr (.meth (.sub (.attr (.loc 0) 159) (.loc 9)) 167 (.of [.loc 7, .bm .get (.loc 1) (.of [.loc 9, .con g_PLAIN]), .attr (.loc 0) 160]))])]), .fld (.loc 0) 160 (.bin .add (.attr (.loc 0) 160) (.con (.int 1))), .for (.one 4) (.val (.attr (.loc 0) 158)) (.of [.expr (.meth (.loc 4) 139 .nil)])]
def F_Net_tick : Fn := ⟨2, 10, b_Net_tick, false⟩
def b_Net_look_house : Sms := .of [.ite (.or (.cmp .lt (.loc 1) (.con (.int 0))) (.cmp .ge (.loc 1) (.bi .len (.of [.attr (.loc 0) 157])))) (.of [.raise 28]) .nil]
def F_Net_look_house : Fn := ⟨2, 2, b_Net_look_house, true⟩
def b_Net_post : Sms := .of [.expr (.meth (.loc 0) 162 (.of [.loc 1])), .ret (.sub (.attr (.loc 0) 157) (.loc 1))]
def F_Net_post : Fn := ⟨2, 2, b_Net_post, true⟩
def b_Net_desk : Sms := .of [.expr (.meth (.loc 0) 162 (.of [.loc 1])), .ret (.sub (.attr (.loc 0) 158) (.loc 1))]
def F_Net_desk : Fn := ⟨2, 2, b_Net_desk, true⟩
def b_Net_houses : Sms := .of [.ret (.bi .len (.of [.attr (.loc 0) 157]))]
def F_Net_houses : Fn := ⟨1, 1, b_Net_houses, true⟩
def b_Net_now : Sms := .of [.ret (.attr (.loc 0) 160)]
def F_Net_now : Fn := ⟨1, 1, b_Net_now, true⟩
def b_Net_calm_ticks : Sms := .of [.set (.one 1) (.bi .max (.of [.bin .add (.comp (.bin .add (.loc 10) (.loc 11)) (.row [8, 9, 10, 11]) (.val (.attr (.loc 0) 156)) (.con (.bl true))) (.lst (.of [.con (.int 0)]))])), .set (.one 2) (.bi .len (.of [.attr (.loc 0) 157])), .set (.one 3) (.bi .sum (.of [.comp (.meth (.loc 6) 89 .nil) (.one 6) (.val (.attr (.loc 0) 158)) (.con (.bl true))])), .set (.one 4) (.bi .sum (.of [.comp (.meth (.loc 7) 70 .nil) (.one 7) (.val (.attr (.loc 0) 157)) (.con (.bl true))])), .set (.one 5) (.bin .add (.bin .add (.bin .mul (.con (.int 2)) (.loc 2)) (.con (.int 2))) (.bin .mul (.bin .mul (.con (.int 3)) (.loc 3)) (.bin .add (.bin .add (.loc 4) (.bin .mul (.con (.int 4)) (.loc 3))) (.con (.int 1))))), .ret (.bin .add (.bin .add (.bin .add (.bin .mul (.con (.int 4)) (.loc 1)) (.con (.int 4))) (.bin .mul (.con (.int 6)) (.loc 3))) (.bin .mul (.bin .mul (.bin .mul (.con (.int 16)) (.bin .add (.loc 1) (.con (.int 1)))) (.bin .sub (.loc 2) (.con (.int 1)))) (.loc 5)))]
def F_Net_calm_ticks : Fn := ⟨1, 12, b_Net_calm_ticks, true⟩
def b_Net_is_finished : Sms := .of [.ret (.bi .all (.of [.comp (.meth (.loc 1) 93 .nil) (.one 1) (.val (.attr (.loc 0) 158)) (.con (.bl true))]))]
def F_Net_is_finished : Fn := ⟨1, 2, b_Net_is_finished, true⟩
def b_wires_between : Sms := .of [.set (.one 3) (.meth (.meth (.meth (.loc 0) 133 (.of [.loc 1])) 97 .nil) 6 .nil), .ret (.comp (.loc 4) (.one 4) (.val (.loc 3)) (.and (.cmp .isin (.sub (.loc 4) (.con (.int 0))) (.loc 2)) (.cmp .isin (.sub (.loc 4) (.con (.int 1))) (.loc 2))))]
def F_wires_between : Fn := ⟨3, 5, b_wires_between, true⟩
def b_alike : Sms := .of [.set (.one 2) (.comp (.call 187 (.of [.loc 0, .loc 3, .loc 1])) (.one 3) (.val (.loc 1)) (.con (.bl true))), .ret (.bi .all (.of [.comp (.cmp .eq (.loc 4) (.sub (.loc 2) (.con (.int 0)))) (.one 4) (.val (.loc 2)) (.con (.bl true))]))]
def F_alike : Fn := ⟨2, 5, b_alike, true⟩
def b_has_row : Sms := .of [.ret (.and (.cmp2 .le .lt (.con (.int 0)) (.loc 1) (.bi .len (.of [.loc 0]))) (.cmp .isin (.loc 2) (.sub (.loc 0) (.loc 1))))]
def F_has_row : Fn := ⟨3, 3, b_has_row, true⟩
def b_trail_judged : Sms := .of [.set (.row [4, 5]) (.loc 1), .set (.one 2) (.sub (.loc 4) (.con (.int 1))), .ite (.cmp .ne (.bi .len (.of [.loc 5])) (.bi .len (.of [.loc 2]))) (.of [.ret (.con (.bl false))]) .nil, .for (.one 3) (.rng (.con (.int 0)) (.bi .len (.of [.loc 2]))) (.of [.set (.one 6) (.con (.str "came")), .ite (.cmp .eq (.loc 3) (.con (.int 0))) (.of [.set (.one 6) (.con (.str "put"))]) (.of [.ite (.cmp .le (.sub (.loc 5) (.loc 3)) (.sub (.loc 5) (.bin .sub (.loc 3) (.con (.int 1))))) (.of [.ret (.con (.bl false))]) .nil]), .ite (.not (.call 189 (.of [.loc 0, .sub (.loc 2) (.loc 3), .tup (.of [.sub (.loc 5) (.loc 3), .loc 6, .loc 4])]))) (.of [.ret (.con (.bl false))]) .nil, .ite (.and (.cmp2 .lt .lt (.con (.int 0)) (.loc 3) (.bin .sub (.bi .len (.of [.loc 2])) (.con (.int 1)))) (.not (.call 189 (.of [.loc 0, .sub (.loc 2) (.loc 3), .tup (.of [.sub (.loc 5) (.loc 3), .con (.str "gone"), .loc 4])])))) (.of [.ret (.con (.bl false))]) .nil]), .ret (.con (.bl true))]
def F_trail_judged : Fn := ⟨2, 7, b_trail_judged, true⟩
def b_came_at : Sms := .of [.for (.row [2, 3, 4]) (.val (.loc 0)) (.of [.ite (.and (.cmp .eq (.loc 3) (.con (.str "came"))) (.cmp .eq (.loc 4) (.loc 1))) (.of [.ret (.loc 2)]) .nil]), .ret (.con .non)]
def F_came_at : Fn := ⟨2, 5, b_came_at, true⟩
def b_put_at : Sms := .of [.for (.row [2, 3, 4]) (.val (.loc 0)) (.of [.ite (.and (.cmp .eq (.loc 3) (.con (.str "put"))) (.cmp .eq (.loc 4) (.loc 1))) (.of [.ret (.loc 2)]) .nil]), .ret (.con .non)]
def F_put_at : Fn := ⟨2, 5, b_put_at, true⟩
def b_trail_of : Sms := .of [.set (.one 2) (.sub (.loc 1) (.con (.int 1))), .set (.one 3) (.lst (.of [.call 192 (.of [.sub (.loc 0) (.sub (.loc 2) (.con (.int 0))), .loc 1])])), .for (.one 4) (.val (.cut (.loc 2) (.con (.int 1)) (.con .non))) (.of [.expr (.bm .append (.loc 3) (.of [.call 191 (.of [.sub (.loc 0) (.loc 4), .loc 1])]))]), .ite (.cmp .isin (.con .non) (.loc 3)) (.of [.ret (.con .non)]) .nil, .ret (.tup (.of [.loc 1, .bi .tuple (.of [.loc 3])]))]
def F_trail_of : Fn := ⟨2, 5, b_trail_of, true⟩
def b_trails : Sms := .of [.set (.one 1) (.comp (.meth (.meth (.loc 0) 133 (.of [.loc 3])) 168 .nil) (.one 3) (.rng (.con (.int 0)) (.meth (.loc 0) 165 .nil)) (.con (.bl true))), .set (.one 2) (.lst .nil), .for (.one 3) (.rng (.con (.int 0)) (.meth (.loc 0) 165 .nil)) (.of [.for (.row [4, 5]) (.val (.meth (.meth (.loc 0) 163 (.of [.loc 3])) 92 .nil)) (.of [.expr (.bm .append (.loc 2) (.of [.tup (.of [.loc 4, .call 193 (.of [.loc 1, .loc 5])])]))])]), .ret (.loc 2)]
def F_trails : Fn := ⟨1, 6, b_trails, true⟩
def b_number_in : Sms := .of [.ite (.or (.cmp .eq (.loc 0) (.con (.str ""))) (.and (.cmp .eq (.sub (.loc 0) (.con (.int 0))) (.con (.str "0"))) (.cmp .ne (.loc 0) (.con (.str "0"))))) (.of [.ret (.con .non)]) .nil, .for (.one 1) (.val (.loc 0)) (.of [.ite (.cmp .notin (.loc 1) (.con (.str "0123456789"))) (.of [.ret (.con .non)]) .nil]), .ret (.bi .int (.of [.loc 0]))]
def F_number_in : Fn := ⟨1, 2, b_number_in, true⟩
def b_numbers_in : Sms := .of [.set (.one 1) (.comp (.call 195 (.of [.loc 2])) (.one 2) (.val (.loc 0)) (.con (.bl true))), .ite (.cmp .isin (.con .non) (.loc 1)) (.of [.ret (.con .non)]) .nil, .ret (.loc 1)]
def F_numbers_in : Fn := ⟨1, 3, b_numbers_in, true⟩
def b_words_and_rest : Sms := .of [.set (.one 2) (.lst .nil), .set (.one 3) (.loc 0), .for (.one 4) (.rng (.con (.int 0)) (.loc 1)) (.of [.set (.row [5, 6, 3]) (.bm .partition (.loc 3) (.of [.con (.str " ")])), .expr (.bm .append (.loc 2) (.of [.loc 5])), .ite (.and (.cmp .eq (.loc 6) (.con (.str ""))) (.cmp .lt (.bin .add (.loc 4) (.con (.int 1))) (.loc 1))) (.of [.ret (.tup (.of [.loc 2, .con .non]))]) .nil, .ite (.cmp .eq (.loc 6) (.con (.str ""))) (.of [.set (.one 3) (.con .non)]) .nil]), .ret (.tup (.of [.loc 2, .loc 3]))]
def F_words_and_rest : Fn := ⟨2, 7, b_words_and_rest, false⟩
def b_Field___init__ : Sms := .of [.fld (.loc 0) 171 (.con (.int 0)), .fld (.loc 0) 172 (.lst .nil), .fld (.loc 0) 173 (.con .non), .fld (.loc 0) 174 (.lst .nil), .fld (.loc 0) 175 (.lst .nil), .fld (.loc 0) 176 (.dict true)]
def F_Field___init__ : Fn := ⟨1, 1, b_Field___init__, false⟩
def b_Field_net : Sms := .of [.ite (.cmp .isn (.attr (.loc 0) 173) (.con .non)) (.of [.fld (.loc 0) 173 (.make 16 (.of [.attr (.loc 0) 171, .attr (.loc 0) 172])), .fld (.loc 0) 174 (.comp (.lst .nil) (.one 1) (.rng (.con (.int 0)) (.attr (.loc 0) 171)) (.con (.bl true))), .fld (.loc 0) 175 (.comp (.con (.int 0)) (.one 1) (.rng (.con (.int 0)) (.attr (.loc 0) 171)) (.con (.bl true)))]) .nil, .ret (.attr (.loc 0) 173)]
def F_Field_net : Fn := ⟨1, 2, b_Field_net, false⟩
def b_Field_found_net : Sms := .of [.set (.one 2) (.bm .split (.loc 1) (.of [.con (.str " ")])), .set (.one 3) (.call 196 (.of [.cut (.loc 2) (.con (.int 1)) (.con .non)])), .ite (.or (.cmp .ne (.bi .len (.of [.loc 2])) (.con (.int 2))) (.or (.cmp .ne (.sub (.loc 2) (.con (.int 0))) (.con (.str "houses"))) (.cmp .isn (.loc 3) (.con .non)))) (.of [.ret (.con (.bl false))]) .nil, .expr (.make 16 (.of [.sub (.loc 3) (.con (.int 0)), .lst .nil])), .fld (.loc 0) 171 (.sub (.loc 3) (.con (.int 0))), .ret (.con (.bl true))]
def F_Field_found_net : Fn := ⟨2, 4, b_Field_found_net, false⟩
def b_Field_take_wire : Sms := .of [.ite (.or (.cmp .isnotn (.attr (.loc 0) 173) (.con .non)) (.cmp .ne (.bi .len (.of [.loc 1])) (.con (.int 4)))) (.of [.ret (.con (.bl false))]) .nil, .set (.one 2) (.bin .add (.attr (.loc 0) 172) (.lst (.of [.bi .tuple (.of [.loc 1])]))), .expr (.make 16 (.of [.attr (.loc 0) 171, .loc 2])), .fld (.loc 0) 172 (.loc 2), .ret (.con (.bl true))]
def F_Field_take_wire : Fn := ⟨2, 3, b_Field_take_wire, false⟩
def b_Field_begin_stream : Sms := .of [.ite (.cmp .ne (.bi .len (.of [.loc 1])) (.con (.int 2))) (.of [.ret (.con (.bl false))]) .nil, .expr (.meth (.meth (.meth (.loc 0) 177 .nil) 163 (.of [.sub (.loc 1) (.con (.int 0))])) 85 (.of [.sub (.loc 1) (.con (.int 1))])), .expr (.bm .append (.sub (.attr (.loc 0) 174) (.sub (.loc 1) (.con (.int 0)))) (.of [.sub (.loc 1) (.con (.int 1))])), .ret (.cmp .lt (.sub (.loc 1) (.con (.int 1))) (.attr (.loc 0) 171))]
def F_Field_begin_stream : Fn := ⟨2, 2, b_Field_begin_stream, false⟩
def b_Field_close_stream : Sms := .of [.ite (.cmp .ne (.bi .len (.of [.loc 1])) (.con (.int 2))) (.of [.ret (.con (.bl false))]) .nil, .expr (.meth (.meth (.meth (.loc 0) 177 .nil) 163 (.of [.sub (.loc 1) (.con (.int 0))])) 65 (.of [.sub (.loc 1) (.con (.int 1))])), .ret (.con (.bl true))]
def F_Field_close_stream : Fn := ⟨2, 2, b_Field_close_stream, false⟩
def b_Field_set_wire : Sms := .of [.ite (.cmp .ne (.bi .len (.of [.loc 1])) (.con (.int 2))) (.of [.ret (.con (.bl false))]) .nil, .for (.one 3) (.val (.attr (.loc 0) 172)) (.of [.ite (.cmp .eq (.bi .sorted (.of [.loc 1])) (.bi .sorted (.of [.cut (.loc 3) (.con .non) (.con (.int 2))]))) (.of [.for (.one 4) (.val (.lst (.of [.tup (.of [.sub (.loc 3) (.con (.int 0)), .sub (.loc 3) (.con (.int 1))]), .tup (.of [.sub (.loc 3) (.con (.int 1)), .sub (.loc 3) (.con (.int 0))])]))) (.of [.item (.attr (.loc 0) 176) (.loc 4) (.loc 2)]), .ret (.con (.bl true))]) .nil]), .ret (.con (.bl false))]
def F_Field_set_wire : Fn := ⟨3, 5, b_Field_set_wire, false⟩
def b_Field_run_on : Sms := .of [.ite (.or (.cmp .ne (.bi .len (.of [.loc 1])) (.con (.int 1))) (.or (.cmp .lt (.sub (.loc 1) (.con (.int 0))) (.con (.int 1))) (.cmp .gt (.sub (.loc 1) (.con (.int 0))) (.con (.int 400))))) (.of [.ret (.con (.bl false))]) .nil, .ite (.cmp .gt (.bin .add (.meth (.meth (.loc 0) 177 .nil) 164 .nil) (.sub (.loc 1) (.con (.int 0)))) (.con (.int 1000))) (.of [.ret (.con (.bl false))]) .nil, .set (.one 2) (.dict true), .for (.one 3) (.val (.attr (.loc 0) 176)) (.of [.ite (.sub (.attr (.loc 0) 176) (.loc 3)) (.of [.item (.loc 2) (.loc 3) (.tup .nil)]) .nil]), .for (.one 4) (.rng (.con (.int 0)) (.sub (.loc 1) (.con (.int 0)))) (.of [.expr (.meth (.meth (.loc 0) 177 .nil) 75 (.of [.loc 2]))]), .ret (.con (.bl true))]
def F_Field_run_on : Fn := ⟨2, 5, b_Field_run_on, false⟩
def b_Field_do_numbers : Sms := .of [.ite (.cmp .eq (.loc 1) (.con (.str "wire"))) (.of [.ret (.meth (.loc 0) 179 (.of [.loc 2]))]) .nil, .expr (.meth (.loc 0) 177 .nil), .ite (.cmp .eq (.loc 1) (.con (.str "open"))) (.of [.ret (.meth (.loc 0) 180 (.of [.loc 2]))]) .nil, .ite (.cmp .eq (.loc 1) (.con (.str "close"))) (.of [.ret (.meth (.loc 0) 181 (.of [.loc 2]))]) .nil, .ite (.or (.cmp .eq (.loc 1) (.con (.str "cut"))) (.cmp .eq (.loc 1) (.con (.str "mend")))) (.of [.ret (.meth (.loc 0) 182 (.of [.loc 2, .cmp .eq (.loc 1) (.con (.str "cut"))]))]) .nil, .ret (.and (.cmp .eq (.loc 1) (.con (.str "run"))) (.meth (.loc 0) 183 (.of [.loc 2])))]
def F_Field_do_numbers : Fn := ⟨3, 3, b_Field_do_numbers, false⟩
def b_Field_do_write : Sms := .of [.set (.row [3, 4]) (.call 197 (.of [.loc 1, .con (.int 3)])), .set (.one 2) (.call 196 (.of [.cut (.loc 3) (.con (.int 1)) (.con .non)])), .ite (.or (.cmp .isn (.loc 4) (.con .non)) (.or (.cmp .eq (.loc 4) (.con (.str ""))) (.cmp .isn (.loc 2) (.con .non)))) (.of [.ret (.con (.bl false))]) .nil, .expr (.meth (.meth (.meth (.loc 0) 177 .nil) 163 (.of [.sub (.loc 2) (.con (.int 0))])) 64 (.of [.sub (.loc 2) (.con (.int 1)), .loc 4])), .ret (.con (.bl true))]
def F_Field_do_write : Fn := ⟨2, 5, b_Field_do_write, false⟩
def b_Field_do_ask : Sms := .of [.set (.row [3, 4]) (.call 197 (.of [.loc 1, .con (.int 3)])), .ite (.or (.cmp .isn (.loc 4) (.con .non)) (.or (.cmp .eq (.loc 4) (.con (.str ""))) (.cmp .isn (.call 195 (.of [.sub (.loc 3) (.con (.int 1))])) (.con .non)))) (.of [.ret (.con (.bl false))]) .nil, .set (.one 2) (.call 195 (.of [.sub (.loc 3) (.con (.int 1))])), .expr (.meth (.meth (.meth (.loc 0) 177 .nil) 163 (.of [.loc 2])) 61 (.of [.sub (.loc 3) (.con (.int 2)), .loc 4])), .item (.attr (.loc 0) 175) (.loc 2) (.bin .add (.sub (.attr (.loc 0) 175) (.loc 2)) (.con (.int 1))), .ret (.con (.bl true))]
def F_Field_do_ask : Fn := ⟨2, 5, b_Field_do_ask, false⟩
def b_Field_do_name : Sms := .of [.ite (.or (.cmp .ne (.bi .len (.of [.loc 1])) (.con (.int 3))) (.cmp .isn (.call 195 (.of [.sub (.loc 1) (.con (.int 1))])) (.con .non))) (.of [.ret (.con (.bl false))]) .nil, .set (.one 2) (.meth (.meth (.loc 0) 177 .nil) 133 (.of [.call 195 (.of [.sub (.loc 1) (.con (.int 1))])])), .ite (.cmp .eq (.sub (.loc 1) (.con (.int 0))) (.con (.str "name"))) (.of [.expr (.meth (.loc 2) 62 (.of [.sub (.loc 1) (.con (.int 2))]))]) (.of [.expr (.meth (.loc 2) 153 (.of [.sub (.loc 1) (.con (.int 2))]))]), .ret (.con (.bl true))]
def F_Field_do_name : Fn := ⟨2, 3, b_Field_do_name, false⟩
def b_Field_do_row : Sms := .of [.set (.one 2) (.bm .split (.loc 1) (.of [.con (.str " ")])), .ite (.cmp .eq (.sub (.loc 2) (.con (.int 0))) (.con (.str "write"))) (.of [.ret (.meth (.loc 0) 184 (.of [.loc 1]))]) .nil, .ite (.cmp .eq (.sub (.loc 2) (.con (.int 0))) (.con (.str "ask"))) (.of [.ret (.meth (.loc 0) 147 (.of [.loc 1]))]) .nil, .ite (.or (.cmp .eq (.sub (.loc 2) (.con (.int 0))) (.con (.str "name"))) (.cmp .eq (.sub (.loc 2) (.con (.int 0))) (.con (.str "drop")))) (.of [.ret (.meth (.loc 0) 185 (.of [.loc 2]))]) .nil, .set (.one 3) (.call 196 (.of [.cut (.loc 2) (.con (.int 1)) (.con .non)])), .ret (.and (.cmp .isnotn (.loc 3) (.con .non)) (.meth (.loc 0) 186 (.of [.sub (.loc 2) (.con (.int 0)), .loc 3])))]
def F_Field_do_row : Fn := ⟨2, 4, b_Field_do_row, false⟩
def b_Field_was_read : Sms := .of [.for (.row [3, 4, 5, 6]) (.val (.meth (.meth (.meth (.loc 0) 177 .nil) 163 (.of [.sub (.sub (.attr (.loc 0) 174) (.loc 1)) (.loc 2)])) 90 .nil)) (.of [.ite (.cmp .eq (.tup (.of [.loc 3, .loc 4])) (.tup (.of [.loc 1, .loc 2]))) (.of [.ret (.loc 5)]) .nil]), .ret (.con (.str ""))]
def F_Field_was_read : Fn := ⟨3, 7, b_Field_was_read, true⟩
def b_Field_house_rows : Sms := .of [.set (.one 2) (.lst .nil), .for (.one 3) (.rng (.con (.int 0)) (.bi .len (.of [.sub (.attr (.loc 0) 174) (.loc 1)]))) (.of [.set (.one 6) (.meth (.loc 0) 187 (.of [.loc 1, .loc 3])), .expr (.bm .append (.loc 2) (.of [.bin .add (.bin .add .no (.bin .mul (.con (.str " ")) (.bi .int (.of [.cmp .ne (.loc 6) (.con (.str ""))])))) (.loc 6)]))]), .for (.one 4) (.rng (.con (.int 0)) (.sub (.attr (.loc 0) 175) (.loc 1))) (.of [.set (.one 7) (.meth (.meth (.meth (.loc 0) 177 .nil) 163 (.of [.loc 1])) 87 (.of [.loc 4])), .ite (.cmp .isn (.loc 7) (.con .non)) (.of [.expr (.bm .append (.loc 2) (.of [.no]))]) (.of [.expr (.bm .append (.loc 2) (.of [.no]))])]), .set (.one 5) (.comp .no (.row [8, 9, 10]) (.val (.meth (.meth (.meth (.meth (.loc 0) 177 .nil) 133 (.of [.loc 1])) 97 .nil) 6 .nil)) (.con (.bl true))), .expr (.bm .append (.loc 2) (.of [.bm .join (.con (.str " ")) (.of [.bin .add (.lst (.of [.con (.str "map"), .bi .str (.of [.loc 1])])) (.loc 5)])])), .ret (.loc 2)]
def F_Field_house_rows : Fn := ⟨2, 11, b_Field_house_rows, true⟩
def b_was_done : Sms := .of [.tri (.of [.ite (.cmp .eq (.loc 1) (.con (.int 1))) (.of [.ret (.meth (.loc 0) 188 (.of [.loc 2]))]) .nil, .ret (.meth (.loc 0) 178 (.of [.loc 2]))])]
def F_was_done : Fn := ⟨3, 3, b_was_done, false⟩
def b_answered : Sms := .of [.set (.one 1) (.make 17 .nil), .for (.row [4, 5]) (.enum (.bm .split (.loc 0) (.of [.con (.str "\n")]))) (.of [.ite (.not (.call 213 (.of [.loc 1, .bin .add (.loc 4) (.con (.int 1)), .loc 5]))) (.of [.expr .no]) .nil]), .expr (.meth (.loc 1) 177 .nil), .set (.one 2) (.lst .nil), .for (.one 3) (.rng (.con (.int 0)) (.attr (.loc 1) 171)) (.of [.expr (.bm .extend (.loc 2) (.of [.meth (.loc 1) 189 (.of [.loc 3])]))]), .ret (.bm .join (.con (.str "\n")) (.of [.loc 2]))]
def F_answered : Fn := ⟨1, 6, b_answered, false⟩
def b_is_fit : Sms := .of [.ret (.bi .any (.of [.comp (.cmp .le (.bi .len (.of [.loc 2])) (.con (.int 2))) (.row [1, 2]) (.val (.loc 0)) (.con (.bl true))]))]
def F_is_fit : Fn := ⟨1, 3, b_is_fit, true⟩
def b_breach : Sms := .of [.expr (.call 93 (.of [.loc 1])), .set (.one 2) (.con (.int 0)), .for (.row [3, 4]) (.enum (.loc 0)) (.of [.set (.one 2) (.bin .add (.loc 2) (.con (.int 1))), .ite (.call 215 (.of [.loc 4])) (.of [.set (.one 2) (.con (.int 0))]) .nil, .ite (.cmp .gt (.loc 2) (.sub (.loc 1) (.con (.int 1)))) (.of [.ret (.bin .sub (.loc 3) (.sub (.loc 1) (.con (.int 1))))]) .nil]), .ret (.con .non)]
def F_breach : Fn := ⟨2, 5, b_breach, true⟩
def b_keeps : Sms := .of [.ret (.cmp .isn (.call 216 (.of [.loc 0, .loc 1])) (.con .non))]
def F_keeps : Fn := ⟨2, 2, b_keeps, true⟩
def b_is_readable : Sms := .of [.ret (.cmp .isnotn (.call 99 (.of [.loc 0])) (.con .non))]
def F_is_readable : Fn := ⟨1, 1, b_is_readable, true⟩
def b_is_shown : Sms := .of [.ite (.or (.cmp .ne (.bin .add (.bin .sub (.loc 3) (.loc 2)) (.con (.int 1))) (.loc 1)) (.or (.cmp .lt (.loc 2) (.con (.int 0))) (.cmp .ge (.loc 3) (.bi .len (.of [.loc 0]))))) (.of [.ret (.con (.bl false))]) .nil, .for (.one 4) (.val (.cut (.loc 0) (.loc 2) (.bin .add (.loc 3) (.con (.int 1))))) (.of [.for (.one 5) (.val (.loc 4)) (.of [.ite (.call 218 (.of [.loc 5])) (.of [.ret (.con (.bl false))]) .nil])]), .ret (.con (.bl true))]
def F_is_shown : Fn := ⟨4, 6, b_is_shown, true⟩
def b_broken_by : Sms := .of [.set (.row [6, 7]) (.loc 1), .set (.one 4) (.bin .sub (.loc 2) (.con (.int 1))), .set (.one 5) (.bin .sub (.loc 3) (.loc 6)), .ite (.or (.cmp .ne (.bin .sub (.loc 5) (.loc 4)) (.loc 7)) (.or (.cmp .lt (.loc 4) (.con (.int 0))) (.cmp .ge (.loc 5) (.bi .len (.of [.loc 0]))))) (.of [.ret (.con (.bl false))]) .nil, .ret (.cmp .eq (.bi .len (.of [.comp (.loc 8) (.one 8) (.val (.cut (.loc 0) (.loc 4) (.bin .add (.loc 5) (.con (.int 1))))) (.call 215 (.of [.loc 8]))])) (.con (.int 0)))]
def F_broken_by : Fn := ⟨4, 9, b_broken_by, true⟩
def fls0 : List Str := ["words",
  "row",
  "sign_row",
  "next_spot",
  "number_here",
  "kept_news",
  "wires",
  "parts",
  "fixed",
  "known",
  "closed",
  "kept_words",
  "goal_house",
  "text_writer",
  "next_new",
  "doer_house",
  "ask_text",
  "was_sent",
  "told_answer",
  "home_post",
  "own_shelf",
  "stream_rows",
  "read_rows",
  "first_letters"]
def fls1 : List Str := ["ask_rows",
  "done_rows",
  "trail_rows",
  "so_far",
  "quiet_ticks",
  "side_number",
  "own_birth",
  "other_birth",
  "own_pair",
  "now_tick",
  "heard_tick",
  "pieces_left",
  "piece_number",
  "piece_count",
  "events_told",
  "first_row",
  "other_row",
  "under_way",
  "to_come",
  "house",
  "quiet",
  "link",
  "queue",
  "joiner"]
def fls2 : List Str := ["given",
  "fresh",
  "own",
  "lines",
  "done",
  "made",
  "called",
  "chart",
  "news_number",
  "out",
  "rows",
  "told",
  "grown",
  "ask",
  "take_name",
  "ask_open",
  "write",
  "close",
  "row_of",
  "is_done",
  "text_reader",
  "rows_kept",
  "waiting",
  "clear"]
def fls3 : List Str := ["is_ready",
  "put",
  "feed",
  "tick",
  "hear",
  "carry",
  "spread",
  "enter",
  "pass_on",
  "greet",
  "own_letter",
  "renew",
  "copy",
  "begin",
  "standing",
  "answer",
  "doer",
  "unfinished",
  "heard",
  "shelf",
  "trails",
  "is_idle",
  "is_through",
  "last_free"]
def fls4 : List Str := ["left",
  "map_now",
  "number",
  "holder",
  "ask_row",
  "fall_silent",
  "signs_now",
  "end_up",
  "read_piece",
  "take_next",
  "next_piece",
  "events",
  "run",
  "settle",
  "letter_came",
  "told_back",
  "body_of",
  "items",
  "read_births",
  "begin_up",
  "up",
  "waits",
  "take",
  "let_go"]
def fls5 : List Str := ["row_tick",
  "tell_news",
  "news",
  "ups_changed",
  "many_waiting",
  "text",
  "ended",
  "known_come",
  "letters_in",
  "signs",
  "count",
  "early",
  "read_count",
  "post",
  "send_count",
  "send_answer",
  "grew",
  "came",
  "send_new",
  "work",
  "put_word",
  "add_to",
  "had",
  "part_came"]
def fls6 : List Str := ["due",
  "letter_here",
  "send_again",
  "do_ask",
  "had_came",
  "send_ask",
  "ask_came",
  "answer_came",
  "send_part",
  "drop_name",
  "late",
  "coming",
  "wire_rows",
  "posts_kept",
  "desks_kept",
  "air_by",
  "ticks_gone",
  "look_fates",
  "look_house",
  "desk",
  "now",
  "houses",
  "is_finished",
  "give"]
def fls7 : List Str := ["book",
  "come",
  "calm_ticks",
  "houses_told",
  "wires_told",
  "at_work",
  "goals",
  "ask_counts",
  "dead_ways",
  "net",
  "do_row",
  "take_wire",
  "begin_stream",
  "close_stream",
  "set_wire",
  "run_on",
  "do_write",
  "do_name",
  "do_numbers",
  "was_read",
  "found_net",
  "house_rows",
  "__init__",
  "flying"]
def fls : List Str := fls0 ++ fls1 ++ fls2 ++ fls3 ++ fls4 ++ fls5 ++ fls6 ++ fls7
def cns0 : List Str := ["SignRow",
  "Map",
  "Writer",
  "Shelf",
  "StreamRow",
  "AskRow",
  "Desk",
  "Joiner",
  "LinkEnd",
  "Queue",
  "Wire",
  "Post",
  "Reader",
  "ReadRow",
  "DoneRow",
  "Air",
  "Net",
  "Field",
  "PostError",
  "BadSign",
  "BadCell",
  "BadMeasure",
  "BadFate",
  "BadModel"]
def cns1 : List Str := ["NoLink",
  "BadPiece",
  "BadLetter",
  "BadNews",
  "BadHouse",
  "BadName",
  "NoStream",
  "NoAsk",
  "BadNet",
  "BadText"]
def cns : List Str := cns0 ++ cns1
end P
end
section
set_option Elab.async false
set_option linter.all false
set_option maxRecDepth 100000
namespace T69
open PySem Mn
def top (i : Nat) : Stmt := PySem.Challenge.pw_stormpost_k69_streams_to_oneself.main.body.getD i (.Pass ⟨0, 0, 0, 0⟩)
def b__law_cell_at : Sms := .of [.ite (.cmp .lt (.loc 1) (.bi .len (.of [.loc 0]))) (.of [.ret (.sub (.loc 0) (.loc 1))]) .nil, .ret (.con (.int 0))]
def F__law_cell_at : Fn := ⟨2, 2, b__law_cell_at, true⟩
def b__law_mixed : Sms := .of [.set (.one 2) (.con (.int 2305843009213693951)), .set (.one 3) (.bin .mod (.bin .mul (.bin .add (.bin .mod (.loc 0) (.loc 2)) (.bin .mul (.bin .add (.loc 1) (.con (.int 3))) (.con (.int 1000000007)))) (.con (.int 1152921504606846883))) (.loc 2)), .set (.one 3) (.bin .mod (.bin .mul (.loc 3) (.loc 3)) (.loc 2)), .set (.one 3) (.bin .mod (.bin .mul (.bin .add (.loc 3) (.loc 1)) (.con (.int 576460752303423433))) (.loc 2)), .ret (.bin .fdiv (.bin .mod (.bin .mul (.loc 3) (.loc 3)) (.loc 2)) (.con (.int 7)))]
def F__law_mixed : Fn := ⟨2, 4, b__law_mixed, true⟩
def b__law_drawn : Sms := .of [.set (.one 2) (.lst .nil), .set (.one 3) (.bi .abs (.of [.loc 0])), .for (.row [4, 5]) (.enum (.loc 1)) (.of [.ite (.cmp .ge (.bi .abs (.of [.loc 0])) (.bin .pow (.con (.int 10)) (.con (.int 18)))) (.of [.expr (.bm .append (.loc 2) (.of [.bin .mod (.loc 3) (.loc 5)])), .set (.one 3) (.bin .fdiv (.loc 3) (.loc 5))]) (.of [.expr (.bm .append (.loc 2) (.of [.bin .mod (.call 301 (.of [.loc 0, .loc 4])) (.loc 5)]))])]), .ret (.loc 2)]
def F__law_drawn : Fn := ⟨2, 6, b__law_drawn, true⟩
def b__law_written : Sms := .of [.set (.one 1) (.sub (.call 302 (.of [.loc 0, .lst (.of [.con (.int 31)])])) (.con (.int 0))), .set (.one 2) (.bin .add (.bin .add (.con (.str " abcdefghijklmnopqrstuvwxyzABC0123456789.,:;!?()[]{}<>~^_-+*/=|@#$&'")) (.con (.str "\""))) (.con (.str "\n"))), .set (.one 3) (.call 302 (.of [.bin .add (.loc 0) (.con (.int 1)), .bin .mul (.lst (.of [.bi .len (.of [.loc 2])])) (.loc 1)])), .ret (.bm .join (.con (.str "")) (.of [.comp (.sub (.loc 2) (.loc 4)) (.one 4) (.val (.loc 3)) (.con (.bl true))]))]
def F__law_written : Fn := ⟨1, 5, b__law_written, true⟩
def b__law_ticks : Sms := .of [.for (.one 3) (.rng (.con (.int 0)) (.loc 2)) (.of [.expr (.meth (.loc 0) 75 (.of [.lst .nil])), .expr (.meth (.loc 1) 139 .nil)])]
def F__law_ticks : Fn := ⟨3, 4, b__law_ticks, false⟩
def b__law_ticks_to_rest : Sms := .of [.set (.one 2) (.bin .add (.con (.int 4)) (.bin .mul (.con (.int 6)) (.meth (.loc 1) 89 .nil))), .whl (.and (.cmp .gt (.loc 2) (.con (.int 0))) (.not (.meth (.loc 1) 93 .nil))) (.of [.expr (.call 304 (.of [.loc 0, .loc 1, .con (.int 1)])), .set (.one 2) (.bin .sub (.loc 2) (.con (.int 1)))])]
def F__law_ticks_to_rest : Fn := ⟨2, 3, b__law_ticks_to_rest, false⟩
def b__law_long : Sms := .of [.set (.one 4) (.comp (.loc 5) (.one 5) (.rng (.con (.int 0)) (.bi .len (.of [.loc 1]))) (.not (.sub (.loc 2) (.loc 5)))), .for (.one 5) (.val (.cut (.loc 4) (.con .non) (.con (.int 1)))) (.of [.set (.one 6) (.bin .mul (.con (.str "post over bad roads, ")) (.loc 3)), .expr (.meth (.loc 0) 64 (.of [.loc 5, .loc 6])), .expr (.meth (.loc 0) 65 (.of [.loc 5])), .item (.loc 1) (.loc 5) (.bin .add (.sub (.loc 1) (.loc 5)) (.loc 6)), .item (.loc 2) (.loc 5) (.con (.bl true))])]
def F__law_long : Fn := ⟨4, 7, b__law_long, false⟩
def b__law_more : Sms := .of [.ite (.cmp .eq (.bin .mod (.loc 4) (.con (.int 4))) (.con (.int 1))) (.of [.expr (.call 306 (.of [.loc 0, .loc 2, .loc 3, .bin .add (.con (.int 60)) (.bin .mod (.bin .fdiv (.loc 4) (.con (.int 4))) (.con (.int 60)))]))]) .nil, .ite (.cmp .eq (.bin .mod (.loc 4) (.con (.int 8))) (.con (.int 6))) (.of [.for (.one 6) (.rng (.bi .len (.of [.loc 2])) (.con (.int 100))) (.of [.expr (.meth (.loc 0) 64 (.of [.meth (.loc 0) 85 (.of [.loc 1]), .bin .mul (.con (.str "x")) (.bin .add (.con (.int 1)) (.bin .mod (.loc 6) (.con (.int 3))))])), .expr (.bm .append (.loc 2) (.of [.bin .mul (.con (.str "x")) (.bin .add (.con (.int 1)) (.bin .mod (.loc 6) (.con (.int 3))))])), .expr (.bm .append (.loc 3) (.of [.con (.bl false)]))])]) .nil, .set (.one 5) (.bin .add (.bi .sum (.of [.comp (.bi .len (.of [.loc 7])) (.one 7) (.val (.loc 2)) (.con (.bl true))])) (.bi .len (.of [.loc 2]))), .ret (.cmp2 .le .le (.bi .len (.of [.loc 2])) (.meth (.loc 0) 89 .nil) (.bin .add (.bi .len (.of [.loc 2])) (.loc 5)))]
def F__law_more : Fn := ⟨5, 8, b__law_more, false⟩
def b__law_read_right : Sms := .of [.set (.one 5) (.meth (.loc 0) 90 .nil), .set (.one 6) (.comp (.loc 11) (.one 11) (.rng (.con (.int 0)) (.bi .len (.of [.loc 2]))) (.or (.cmp .ne (.sub (.loc 2) (.loc 11)) (.con (.str ""))) (.sub (.loc 3) (.loc 11)))), .ite (.cmp .ne (.comp (.cut (.loc 12) (.con .non) (.con (.int 2))) (.one 12) (.val (.loc 5)) (.con (.bl true))) (.bi .sorted (.of [.comp (.cut (.loc 12) (.con .non) (.con (.int 2))) (.one 12) (.val (.loc 5)) (.con (.bl true))]))) (.of [.ret (.con (.bl false))]) .nil, .ite (.and (.loc 4) (.cmp .ne (.comp (.cut (.loc 12) (.con .non) (.con (.int 2))) (.one 12) (.val (.loc 5)) (.con (.bl true))) (.comp (.tup (.of [.loc 1, .loc 11])) (.one 11) (.val (.loc 6)) (.con (.bl true))))) (.of [.ret (.con (.bl false))]) .nil, .for (.row [7, 8, 9, 10]) (.val (.loc 5)) (.of [.ite (.or (.cmp .ne (.loc 7) (.loc 1)) (.or (.cmp .ne (.cut (.sub (.loc 2) (.loc 8)) (.con .non) (.bi .len (.of [.loc 9]))) (.loc 9)) (.not (.bi .isbool (.of [.loc 10]))))) (.of [.ret (.con (.bl false))]) .nil, .ite (.and (.loc 10) (.or (.cmp .ne (.loc 9) (.sub (.loc 2) (.loc 8))) (.not (.sub (.loc 3) (.loc 8))))) (.of [.ret (.con (.bl false))]) .nil, .ite (.and (.loc 4) (.or (.cmp .ne (.loc 9) (.sub (.loc 2) (.loc 8))) (.cmp .ne (.loc 10) (.sub (.loc 3) (.loc 8))))) (.of [.ret (.con (.bl false))]) .nil]), .ret (.con (.bl true))]
def F__law_read_right : Fn := ⟨5, 13, b__law_read_right, true⟩
def b_law : Sms := .of [.set (.one 1) (.call 300 (.of [.loc 0, .con (.int 0)])), .set (.one 2) (.bin .mod (.loc 1) (.con (.int 32))), .set (.one 3) (.make 11 (.of [.loc 2, .lst .nil])), .set (.one 4) (.make 6 (.of [.loc 3])), .set (.one 5) (.lst .nil), .set (.one 6) (.lst .nil), .set (.one 7) (.lst .nil), .for (.one 8) (.val (.bin .add (.lst (.of [.con (.int 0)])) (.cut (.loc 0) (.con (.int 1)) (.con (.int 41))))) (.of [.set (.row [11, 10, 12]) (.call 302 (.of [.loc 8, .lst (.of [.con (.int 4), .con (.int 3), .con (.int 4)])])), .ite (.and (.cmp .lt (.bi .len (.of [.loc 5])) (.con (.int 3))) (.or (.cmp .eq (.loc 11) (.con (.int 0))) (.cmp .eq (.loc 5) (.lst .nil)))) (.of [.ite (.cmp .ne (.meth (.loc 4) 85 (.of [.loc 2])) (.bi .len (.of [.loc 5]))) (.of [.ret (.con (.bl false))]) .nil, .expr (.bm .append (.loc 5) (.of [.con (.str "")])), .expr (.bm .append (.loc 6) (.of [.con (.bl false)]))]) .nil, .set (.one 10) (.bin .mod (.loc 10) (.bi .len (.of [.loc 5]))), .ite (.and (.not (.sub (.loc 6) (.loc 10))) (.cmp .lt (.loc 11) (.con (.int 3)))) (.of [.set (.one 13) (.call 303 (.of [.loc 8])), .expr (.meth (.loc 4) 64 (.of [.loc 10, .loc 13])), .item (.loc 5) (.loc 10) (.bin .add (.sub (.loc 5) (.loc 10)) (.loc 13)), .ite (.and (.cmp .ne (.loc 13) (.con (.str ""))) (.cmp .ne (.meth (.loc 4) 86 (.of [.loc 10])) (.tup (.of [.con (.str "way"), .tup (.of [.loc 2]), .lst (.of [.tup (.of [.loc 2, .con (.int 0)])])])))) (.of [.ret (.con (.bl false))]) .nil]) .nil, .ite (.and (.not (.sub (.loc 6) (.loc 10))) (.cmp .eq (.loc 11) (.con (.int 3)))) (.of [.expr (.meth (.loc 4) 65 (.of [.loc 10])), .item (.loc 6) (.loc 10) (.con (.bl true))]) .nil, .expr (.call 304 (.of [.loc 3, .loc 4, .loc 12])), .ite (.not (.call 308 (.of [.loc 4, .loc 2, .loc 5, .loc 6, .con (.bl false)]))) (.of [.ret (.con (.bl false))]) .nil, .expr (.bm .append (.loc 7) (.of [.tup (.of [.meth (.loc 4) 90 .nil, .bi .list (.of [.meth (.loc 4) 90 .nil])])])), .expr (.bm .append (.meth (.loc 4) 90 .nil) (.of [.tup (.of [.con (.int 0), .con (.int 0), .con (.str ""), .con (.bl true)])]))]), .ite (.not (.call 307 (.of [.loc 4, .loc 2, .loc 5, .loc 6, .bin .fdiv (.loc 1) (.con (.int 32))]))) (.of [.ret (.con (.bl false))]) .nil, .expr (.call 305 (.of [.loc 3, .loc 4])), .ite (.cmp .ne (.comp (.loc 14) (.one 14) (.val (.loc 7)) (.cmp .ne (.sub (.loc 14) (.con (.int 0))) (.sub (.loc 14) (.con (.int 1))))) (.lst .nil)) (.of [.ret (.con (.bl false))]) .nil, .ite (.cmp .ne (.comp (.meth (.loc 4) 86 (.of [.loc 15])) (.one 15) (.rng (.con (.int 0)) (.bi .len (.of [.loc 5]))) (.con (.bl true))) (.comp (.sub (.lst (.of [.con (.str "idle"), .con (.str "done")])) (.bi .int (.of [.loc 16]))) (.one 16) (.val (.loc 6)) (.con (.bl true)))) (.of [.ret (.con (.bl false))]) .nil, .set (.one 9) (.and (.cmp .eq (.meth (.loc 4) 89 .nil) (.bi .len (.of [.loc 5]))) (.cmp .isn (.meth (.loc 4) 93 .nil) (.con (.bl true)))), .ret (.and (.loc 9) (.call 308 (.of [.loc 4, .loc 2, .loc 5, .loc 6, .con (.bl true)])))]
def F_law : Fn := ⟨1, 17, b_law, false⟩
def fns0 : List (Nat × Fn) := [(1, P.F_look_sign),
  (4, P.F_sign_of),
  (5, P.F_text_signs),
  (154, P.F_letter_of_sign),
  (155, P.F_signs_text),
  (6, P.F_number_signs),
  (7, P.F_signs_number),
  (8, P.F_is_house),
  (10, P.F_look_at_near),
  (11, P.F_look_at_names),
  (12, P.F_made_news),
  (21, P.F_Map___init__),
  (22, P.F_Map_hear),
  (24, P.F_Map_told_back),
  (25, P.F_Map_wires),
  (27, P.F_Map_copy),
  (156, P.F_Reader___init__),
  (157, P.F_Reader_take),
  (158, P.F_Reader_text),
  (159, P.F_Reader_ended),
  (28, P.F_beside),
  (29, P.F_lengths_to),
  (30, P.F_way_of),
  (35, P.F_Writer___init__)]
def fns1 : List (Nat × Fn) := [(36, P.F_Writer_ask_open),
  (37, P.F_Writer_last_free),
  (38, P.F_Writer_write),
  (39, P.F_Writer_close),
  (40, P.F_Writer_body_of),
  (41, P.F_Writer_due),
  (42, P.F_Writer_had),
  (43, P.F_Writer_is_done),
  (44, P.F_Writer_left),
  (45, P.F_Shelf___init__),
  (50, P.F_StreamRow___init__),
  (163, P.F_ReadRow___init__),
  (52, P.F_Desk___init__),
  (53, P.F_Desk_begin),
  (54, P.F_Desk_row_of),
  (55, P.F_Desk_write),
  (56, P.F_Desk_close),
  (57, P.F_Desk_standing),
  (58, P.F_Desk_heard),
  (64, P.F_Desk_unfinished),
  (65, P.F_Desk_is_idle),
  (67, P.F_Desk_send_part),
  (68, P.F_Desk_send_count),
  (71, P.F_Desk_part_came)]
def fns2 : List (Nat × Fn) := [(72, P.F_Desk_had_came),
  (75, P.F_Desk_letter_here),
  (77, P.F_Desk_send_new),
  (78, P.F_Desk_work),
  (79, P.F_are_signs),
  (80, P.F_is_way),
  (81, P.F_made_letter),
  (121, P.F_ask_house),
  (132, P.F_Post___init__),
  (133, P.F_Post_row_tick),
  (134, P.F_Post_enter),
  (135, P.F_Post_own_letter),
  (142, P.F_Post_greet),
  (143, P.F_Post_number),
  (144, P.F_Post_tick),
  (145, P.F_Post_post),
  (146, P.F_Post_came),
  (147, P.F_Post_grew),
  (150, P.F_Post_map_now),
  (300, F__law_cell_at),
  (301, F__law_mixed),
  (302, F__law_drawn),
  (303, F__law_written),
  (304, F__law_ticks)]
def fns3 : List (Nat × Fn) := [(305, F__law_ticks_to_rest),
  (306, F__law_long),
  (307, F__law_more),
  (308, F__law_read_right),
  (309, F_law)]
def fns : List (Nat × Fn) := fns0 ++ fns1 ++ fns2 ++ fns3
def ms0 : List (Nat × Nat × Nat) := [(1, 190, 21),
  (1, 76, 22),
  (1, 111, 24),
  (1, 6, 25),
  (1, 84, 27),
  (12, 190, 156),
  (12, 118, 157),
  (12, 125, 158),
  (12, 126, 159),
  (2, 190, 35),
  (2, 63, 36),
  (2, 95, 37),
  (2, 64, 38),
  (2, 65, 39),
  (2, 112, 40),
  (2, 144, 41),
  (2, 142, 42),
  (2, 67, 43),
  (2, 96, 44),
  (3, 190, 45),
  (4, 190, 50),
  (13, 190, 163),
  (6, 190, 52),
  (6, 85, 53)]
def ms1 : List (Nat × Nat × Nat) := [(6, 66, 54),
  (6, 64, 55),
  (6, 65, 56),
  (6, 86, 57),
  (6, 90, 58),
  (6, 89, 64),
  (6, 93, 65),
  (6, 152, 67),
  (6, 134, 68),
  (6, 143, 71),
  (6, 148, 72),
  (6, 145, 75),
  (6, 138, 77),
  (6, 139, 78),
  (11, 190, 132),
  (11, 120, 133),
  (11, 79, 134),
  (11, 82, 135),
  (11, 81, 142),
  (11, 98, 143),
  (11, 75, 144),
  (11, 133, 145),
  (11, 137, 146),
  (11, 136, 147)]
def ms2 : List (Nat × Nat × Nat) := [(11, 97, 150)]
def ms : List (Nat × Nat × Nat) := ms0 ++ ms1 ++ ms2
def inis0 : List (Nat × Nat) := [(1, 21),
  (12, 156),
  (2, 35),
  (3, 45),
  (4, 50),
  (13, 163),
  (6, 52),
  (11, 132)]
def inis : List (Nat × Nat) := inis0
def gds0 : List (Nat × Nat) := [(1, 5),
  (2, 7),
  (2, 8),
  (2, 9),
  (2, 10),
  (3, 11),
  (4, 12),
  (4, 13),
  (4, 14),
  (6, 19),
  (6, 20),
  (6, 21),
  (6, 22),
  (6, 23),
  (6, 24),
  (6, 25),
  (6, 26),
  (11, 50),
  (11, 51),
  (11, 52),
  (11, 53),
  (11, 54),
  (11, 55),
  (11, 56)]
def gds1 : List (Nat × Nat) := [(11, 57),
  (11, 58),
  (11, 59),
  (11, 60),
  (12, 10),
  (12, 129),
  (12, 130),
  (12, 131),
  (13, 68),
  (13, 132)]
def gds : List (Nat × Nat) := gds0 ++ gds1
def tx : Tx := ⟨fns, ms, inis, gds, [1, 2, 3, 4, 6, 11, 12, 13], 192⟩
def dds0 : List (Nat × Dd) := [(1, ⟨("look_sign", none), "look_sign", ["a"], top 16⟩),
  (4, ⟨("sign_of", none), "sign_of", ["letter", "at"], top 23⟩),
  (5, ⟨("text_signs", none), "text_signs", ["text", "letter"], top 24⟩),
  (154, ⟨("letter_of_sign", none), "letter_of_sign", ["sign"], top 25⟩),
  (155, ⟨("signs_text", none), "signs_text", ["signs", "sign"], top 26⟩),
  (6, ⟨("number_signs", none), "number_signs", ["number", "many", "signs", "rest", "k"], top 27⟩),
  (7, ⟨("signs_number", none), "signs_number", ["signs", "number", "sign"], top 28⟩),
  (8, ⟨("is_house", none), "is_house", ["number"], top 38⟩),
  (10, ⟨("look_at_near", none), "look_at_near", ["house", "near", "seen", "other", "quiet", "pair"], top 40⟩),
  (11, ⟨("look_at_names", none), "look_at_names", ["names", "name"], top 41⟩),
  (12, ⟨("made_news", none), "made_news", ["house", "number", "near", "names", "wires", "other", "quiet", "pair"], top 42⟩),
  (21, ⟨("Map", some ("__init__" : Str)), "Map.__init__", ["self"], L2.inClass (top 49) 0⟩)]
def dds1 : List (Nat × Dd) := [(22, ⟨("Map", some ("hear" : Str)), "Map.hear", ["self", "news"], L2.inClass (top 49) 1⟩),
  (24, ⟨("Map", some ("told_back" : Str)), "Map.told_back", ["self", "house", "other", "pair", "back", "quiet", "told"], L2.inClass (top 49) 3⟩),
  (25, ⟨("Map", some ("wires" : Str)), "Map.wires", ["self", "found", "house", "other", "quiet", "pair", "back"], L2.inClass (top 49) 4⟩),
  (27, ⟨("Map", some ("copy" : Str)), "Map.copy", ["self", "other", "house"], L2.inClass (top 49) 6⟩),
  (156, ⟨("Reader", some ("__init__" : Str)), "Reader.__init__", ["self"], L2.inClass (top 51) 0⟩),
  (157, ⟨("Reader", some ("take" : Str)), "Reader.take", ["self", "number", "body", "part"], L2.inClass (top 51) 1⟩),
  (158, ⟨("Reader", some ("text" : Str)), "Reader.text", ["self"], L2.inClass (top 51) 2⟩),
  (159, ⟨("Reader", some ("ended" : Str)), "Reader.ended", ["self"], L2.inClass (top 51) 3⟩),
  (28, ⟨("beside", none), "beside", ["wires", "house", "found", "a", "b", "length"], top 53⟩),
  (29, ⟨("lengths_to", none), "lengths_to", ["wires", "goal", "far", "changed", "house", "other", "length"], top 54⟩),
  (30, ⟨("way_of", none), "way_of", ["known", "one", "other", "wires", "far", "way", "house", "length"], top 55⟩),
  (35, ⟨("Writer", some ("__init__" : Str)), "Writer.__init__", ["self"], L2.inClass (top 59) 0⟩)]
def dds2 : List (Nat × Dd) := [(36, ⟨("Writer", some ("ask_open" : Str)), "Writer.ask_open", ["self"], L2.inClass (top 59) 1⟩),
  (37, ⟨("Writer", some ("last_free" : Str)), "Writer.last_free", ["self"], L2.inClass (top 59) 2⟩),
  (38, ⟨("Writer", some ("write" : Str)), "Writer.write", ["self", "text", "sign"], L2.inClass (top 59) 3⟩),
  (39, ⟨("Writer", some ("close" : Str)), "Writer.close", ["self"], L2.inClass (top 59) 4⟩),
  (40, ⟨("Writer", some ("body_of" : Str)), "Writer.body_of", ["self", "number", "last"], L2.inClass (top 59) 5⟩),
  (41, ⟨("Writer", some ("due" : Str)), "Writer.due", ["self", "to", "number"], L2.inClass (top 59) 6⟩),
  (42, ⟨("Writer", some ("had" : Str)), "Writer.had", ["self", "count"], L2.inClass (top 59) 7⟩),
  (43, ⟨("Writer", some ("is_done" : Str)), "Writer.is_done", ["self"], L2.inClass (top 59) 8⟩),
  (44, ⟨("Writer", some ("left" : Str)), "Writer.left", ["self"], L2.inClass (top 59) 9⟩),
  (45, ⟨("Shelf", some ("__init__" : Str)), "Shelf.__init__", ["self"], L2.inClass (top 71) 0⟩),
  (50, ⟨("StreamRow", some ("__init__" : Str)), "StreamRow.__init__", ["self", "goal"], L2.inClass (top 72) 0⟩),
  (163, ⟨("ReadRow", some ("__init__" : Str)), "ReadRow.__init__", ["self"], L2.inClass (top 73) 0⟩)]
def dds3 : List (Nat × Dd) := [(52, ⟨("Desk", some ("__init__" : Str)), "Desk.__init__", ["self", "post"], L2.inClass (top 76) 0⟩),
  (53, ⟨("Desk", some ("begin" : Str)), "Desk.begin", ["self", "goal"], L2.inClass (top 76) 1⟩),
  (54, ⟨("Desk", some ("row_of" : Str)), "Desk.row_of", ["self", "stream"], L2.inClass (top 76) 2⟩),
  (55, ⟨("Desk", some ("write" : Str)), "Desk.write", ["self", "stream", "text"], L2.inClass (top 76) 3⟩),
  (56, ⟨("Desk", some ("close" : Str)), "Desk.close", ["self", "stream"], L2.inClass (top 76) 4⟩),
  (57, ⟨("Desk", some ("standing" : Str)), "Desk.standing", ["self", "stream", "row"], L2.inClass (top 76) 5⟩),
  (58, ⟨("Desk", some ("heard" : Str)), "Desk.heard", ["self", "found", "writer", "stream", "reader"], L2.inClass (top 76) 6⟩),
  (64, ⟨("Desk", some ("unfinished" : Str)), "Desk.unfinished", ["self", "parts", "asks", "answers", "row", "key"], L2.inClass (top 76) 12⟩),
  (65, ⟨("Desk", some ("is_idle" : Str)), "Desk.is_idle", ["self"], L2.inClass (top 76) 13⟩),
  (67, ⟨("Desk", some ("send_part" : Str)), "Desk.send_part", ["self", "stream", "number", "body", "row", "about"], L2.inClass (top 76) 15⟩),
  (68, ⟨("Desk", some ("send_count" : Str)), "Desk.send_count", ["self", "writer", "stream", "about", "count"], L2.inClass (top 76) 16⟩),
  (71, ⟨("Desk", some ("part_came" : Str)), "Desk.part_came", ["self", "writer", "letter", "stream", "number", "row", "before", "part"], L2.inClass (top 76) 19⟩)]
def dds4 : List (Nat × Dd) := [(72, ⟨("Desk", some ("had_came" : Str)), "Desk.had_came", ["self", "house", "letter", "number"], L2.inClass (top 76) 20⟩),
  (75, ⟨("Desk", some ("letter_here" : Str)), "Desk.letter_here", ["self", "letter", "origin"], L2.inClass (top 76) 23⟩),
  (77, ⟨("Desk", some ("send_new" : Str)), "Desk.send_new", ["self", "stream", "row", "number", "body"], L2.inClass (top 76) 25⟩),
  (78, ⟨("Desk", some ("work" : Str)), "Desk.work", ["self", "grown", "letter"], L2.inClass (top 76) 26⟩),
  (79, ⟨("are_signs", none), "are_signs", ["numbers", "number"], top 86⟩),
  (80, ⟨("is_way", none), "is_way", ["way"], top 87⟩),
  (81, ⟨("made_letter", none), "made_letter", ["count", "way", "kind", "about", "body"], top 88⟩),
  (121, ⟨("ask_house", none), "ask_house", ["number"], top 130⟩),
  (132, ⟨("Post", some ("__init__" : Str)), "Post.__init__", ["self", "number", "wires", "seen", "house", "measure", "side"], L2.inClass (top 132) 0⟩),
  (133, ⟨("Post", some ("row_tick" : Str)), "Post.row_tick", ["self"], L2.inClass (top 132) 1⟩),
  (134, ⟨("Post", some ("enter" : Str)), "Post.enter", ["self", "word", "letter"], L2.inClass (top 132) 2⟩),
  (135, ⟨("Post", some ("own_letter" : Str)), "Post.own_letter", ["self", "way", "kind", "about", "body", "letter"], L2.inClass (top 132) 3⟩)]
def dds5 : List (Nat × Dd) := [(142, ⟨("Post", some ("greet" : Str)), "Post.greet", ["self", "wire", "news"], L2.inClass (top 132) 10⟩),
  (143, ⟨("Post", some ("number" : Str)), "Post.number", ["self"], L2.inClass (top 132) 11⟩),
  (144, ⟨("Post", some ("tick" : Str)), "Post.tick", ["self", "came", "runs", "letters", "changed", "wire", "run", "letter", "some"], L2.inClass (top 132) 12⟩),
  (145, ⟨("Post", some ("post" : Str)), "Post.post", ["self", "goal", "kind", "about", "body", "told", "letter", "wire"], L2.inClass (top 132) 13⟩),
  (146, ⟨("Post", some ("came" : Str)), "Post.came", ["self", "told"], L2.inClass (top 132) 14⟩),
  (147, ⟨("Post", some ("grew" : Str)), "Post.grew", ["self", "told"], L2.inClass (top 132) 15⟩),
  (150, ⟨("Post", some ("map_now" : Str)), "Post.map_now", ["self"], L2.inClass (top 132) 18⟩),
  (300, ⟨("_law_cell_at", none), "_law_cell_at", ["script", "k"], top 134⟩),
  (301, ⟨("_law_mixed", none), "_law_mixed", ["cell", "k", "prime", "one"], top 135⟩),
  (302, ⟨("_law_drawn", none), "_law_drawn", ["cell", "bounds", "row", "rest", "k", "bound"], top 136⟩),
  (303, ⟨("_law_written", none), "_law_written", ["cell", "many", "signs", "draws", "draw"], top 137⟩),
  (304, ⟨("_law_ticks", none), "_law_ticks", ["post", "desk", "many", "k"], top 138⟩)]
def dds6 : List (Nat × Dd) := [(305, ⟨("_law_ticks_to_rest", none), "_law_ticks_to_rest", ["post", "desk", "left"], top 139⟩),
  (306, ⟨("_law_long", none), "_law_long", ["desk", "texts", "closed", "many", "open_ones", "k", "text"], top 140⟩),
  (307, ⟨("_law_more", none), "_law_more", ["desk", "house", "texts", "closed", "plan", "parts", "k", "text"], top 141⟩),
  (308, ⟨("_law_read_right", none), "_law_read_right", ["desk", "house", "texts", "closed", "last", "heard", "due", "writer", "stream", "text", "ended", "k", "row"], top 142⟩),
  (309, ⟨("law", none), "law", ["script", "base", "house", "post", "desk", "texts", "closed", "early", "cell", "idle", "stream", "way", "ticks", "text", "pair", "k", "one"], top 143⟩)]
def dds : List (Nat × Dd) := dds0 ++ dds1 ++ dds2 ++ dds3 ++ dds4 ++ dds5 ++ dds6
def cons0 : List (Str × W) := [(("PRIME" : Str), .int 97),
  (("LAST_LETTER" : Str), .int 95),
  (("NO_LETTER" : Str), .int 5),
  (("LETTERS_signs" : Str), .str " !\"#$&'()*+,-./0123456789:;<=>?@ABCDEFGHIJKLMNOPQRSTUVWXYZ[\\]^_`abcdefghijklmnopqrstuvwxyz{|}~\n"),
  (("MOST_HOUSE_maps" : Str), .int 31),
  (("MOST_NUMBER" : Str), .int 900000),
  (("MOST_NEAR" : Str), .int 5),
  (("MOST_QUIET" : Str), .int 10),
  (("MOST_BIRTH" : Str), .int 9000),
  (("MOST_NAMES" : Str), .int 4),
  (("PART_SIGNS" : Str), .int 12),
  (("MOST_UNDER_WAY" : Str), .int 4)]
def cons1 : List (Str × W) := [(("OF_STREAM" : Str), .int 0),
  (("SIGNS" : Str), .int 97),
  (("MOST_COUNT" : Str), .int 900000),
  (("MOST_WAY" : Str), .int 6),
  (("HOUSES" : Str), .int 32),
  (("KINDS" : Str), P.g_KINDS),
  (("MOST_ABOUT" : Str), .int 4),
  (("MOST_BODY" : Str), .int 56),
  (("MOST_WIRES" : Str), .int 5),
  (("MOST_HOUSE_posts" : Str), .int 31)]
def cons : List (Str × W) := cons0 ++ cons1
def funs0 : List (Str × Nat) := [(("look_sign" : Str), 1),
  (("sign_of" : Str), 4),
  (("text_signs" : Str), 5),
  (("letter_of_sign" : Str), 154),
  (("signs_text" : Str), 155),
  (("number_signs" : Str), 6),
  (("signs_number" : Str), 7),
  (("is_house" : Str), 8),
  (("look_at_near" : Str), 10),
  (("look_at_names" : Str), 11),
  (("made_news" : Str), 12),
  (("beside" : Str), 28),
  (("lengths_to" : Str), 29),
  (("way_of" : Str), 30),
  (("are_signs" : Str), 79),
  (("is_way" : Str), 80),
  (("made_letter" : Str), 81),
  (("ask_house" : Str), 121),
  (("_law_cell_at" : Str), 300),
  (("_law_mixed" : Str), 301),
  (("_law_drawn" : Str), 302),
  (("_law_written" : Str), 303),
  (("_law_ticks" : Str), 304),
  (("_law_ticks_to_rest" : Str), 305)]
def funs1 : List (Str × Nat) := [(("_law_long" : Str), 306),
  (("_law_more" : Str), 307),
  (("_law_read_right" : Str), 308),
  (("law" : Str), 309)]
def funs : List (Str × Nat) := funs0 ++ funs1
def clss0 : List (Str × Nat) := [(("Map" : Str), 1),
  (("Writer" : Str), 2),
  (("Shelf" : Str), 3),
  (("StreamRow" : Str), 4),
  (("Desk" : Str), 6),
  (("Post" : Str), 11),
  (("Reader" : Str), 12),
  (("ReadRow" : Str), 13)]
def clss : List (Str × Nat) := clss0
def excs0 : List (Str × Nat) := [(("BadHouse" : Str), 28),
  (("BadLetter" : Str), 26),
  (("BadNews" : Str), 27),
  (("BadSign" : Str), 19),
  (("NoStream" : Str), 30)]
def excs : List (Str × Nat) := excs0
def nams0 : List Str := []
def nams : List Str := nams0
def ads0 : List Nat := [3,
  383,
  382,
  526,
  525,
  594,
  593,
  615,
  614,
  879,
  878,
  1468,
  1467,
  425,
  424,
  636,
  635,
  128,
  127,
  31,
  30,
  104,
  103,
  116,
  115,
  44,
  43,
  152,
  151,
  173,
  172,
  194,
  193,
  199,
  198,
  206,
  205,
  211,
  210,
  218,
  217,
  225,
  224,
  232,
  231,
  244,
  243,
  251,
  250,
  256,
  255,
  340,
  339,
  347,
  346,
  359,
  358,
  366,
  365,
  380]
def ads1 : List Nat := [379,
  401,
  400,
  408,
  407,
  415,
  414,
  422,
  421,
  436,
  435,
  443,
  442,
  448,
  447,
  462,
  461,
  469,
  468,
  476,
  475,
  483,
  482,
  490,
  489,
  497,
  496,
  502,
  501,
  509,
  508,
  516,
  515,
  523,
  522,
  563,
  562,
  612,
  611,
  633,
  632,
  696,
  695,
  703,
  702,
  710,
  709,
  717,
  716,
  724,
  723,
  731,
  730,
  738,
  737,
  778,
  777,
  785,
  784,
  799]
def ads2 : List Nat := [798,
  806,
  805,
  827,
  826,
  834,
  833,
  855,
  854,
  869,
  868,
  876,
  875,
  891,
  890,
  898,
  897,
  905,
  904,
  1239,
  1238,
  1326,
  1325,
  1333,
  1332,
  1340,
  1339,
  1347,
  1346,
  1392,
  1391,
  1399,
  1398,
  1404,
  1403,
  1411,
  1410,
  1418,
  1417,
  1425,
  1424,
  1446,
  1445,
  1479,
  1478,
  1486,
  1485,
  1493,
  1492,
  1498,
  1497,
  1505,
  1504,
  1512,
  1511,
  1517,
  1516,
  1522,
  1521,
  1527]
def ads3 : List Nat := [1526,
  1532,
  1531,
  884]
def ads : List Nat := ads0 ++ ads1 ++ ads2 ++ ads3
def src : Src := ⟨tx, P.cns, P.fls, dds, cons, funs, clss, excs, nams, ads, [9], [10]⟩
end T69
end
section
set_option Elab.async false
set_option linter.all false
set_option maxRecDepth 100000
set_option maxHeartbeats 0
namespace T69
open PySem PySem.W PySem.Calls PyProof.Rows
abbrev Rr : OpenRow := OpenLaw.row PySem.Challenge.rw_stormpost_k69_streams_to_oneself
abbrev qv : Program := view Rr.prog [143]
def names0 : List PySem.Str := ["_wall", "PostError", "BadSign", "BadCell", "BadMeasure", "NoLink", "BadPiece", "BadLetter", "BadNews", "BadHouse", "BadName", "NoStream", "NoAsk", "PRIME", "look_sign", "power"]
def names1 : List PySem.Str := ["inverse", "LAST_LETTER", "NO_LETTER", "LETTERS_signs", "sign_of", "text_signs", "letter_of_sign", "signs_text", "number_signs", "signs_number", "MOST_HOUSE_maps", "MOST_NUMBER", "MOST_NEAR", "MOST_QUIET", "MOST_BIRTH", "MOST_NAMES"]
def names2 : List PySem.Str := ["LONGEST_NAME", "LETTERS_maps", "is_house", "is_name", "look_at_near", "look_at_names", "made_news", "name_number", "name_of", "news_body", "SignRow", "news_read", "news_of", "Map", "Reader", "beside"]
def names3 : List PySem.Str := ["lengths_to", "way_of", "PART_SIGNS", "MOST_UNDER_WAY", "Writer", "FIGURES", "VALUE_SIGNS", "LONGEST_VALUE", "MOST_FIGURES", "LONGEST_ASK", "OF_STREAM", "OF_ANSWER", "whole_number", "is_value", "is_added", "Shelf"]
def names4 : List PySem.Str := ["StreamRow", "ReadRow", "AskRow", "DoneRow", "Desk", "SIGNS", "MOST_COUNT", "MOST_WAY", "HOUSES", "KINDS", "MOST_ABOUT", "MOST_BODY", "IN_A_PIECE", "are_signs", "is_way", "made_letter"]
def names5 : List PySem.Str := ["letter_signs", "taken_from", "letter_of", "pieces_of", "Joiner", "POWERS", "CHECKS", "PLACES", "FREE", "SUMS", "look_signs", "sums_of", "sealed", "troubles", "MOST_LATE", "MOST_LOST"]
def names6 : List PySem.Str := ["look_late", "look_measure", "quiet_of", "place_of", "one_turned", "goes_on", "two_turned", "mended", "ALL_SIGNS", "MOST_SIGNS", "BIRTH_SIGNS", "look_at_piece", "LinkEnd", "same_thing", "with_letter", "Queue"]
def names7 : List PySem.Str := ["MOST_WIRES", "MOST_HOUSE_posts", "READY_PIECES", "ask_house", "Wire", "Post", "_law_cell_at", "_law_mixed", "_law_drawn", "_law_written", "_law_ticks", "_law_ticks_to_rest", "_law_long", "_law_more", "_law_read_right"]
def names : List PySem.Str := names0 ++ names1 ++ names2 ++ names3 ++ names4 ++ names5 ++ names6 ++ names7
abbrev hk : PySem.W.Hook := Mn.hookS src
def ob (s : PySem.W.SharedT) : Mn.AlS := Mn.obsSG src (HandSHeadRun.getT s)
theorem ob_eq (s : PySem.W.SharedT) : ob s = hk.obs s.abs := Mn.obsSG_eq (HandSHeadRun.getT_eq s)
noncomputable abbrev endQ (w : World) (os : OsState) : Option PySem.W.SharedT := HandSHeadRun.endF (HandSHeadRun.stepQ (HandSHeadRun.denQ HandSHeadRun.tabQ) Rr.prog w) 20000 Rr.prog w os
theorem run1 (w : World) : ∀ os : OsState, (endQ w os).map (fun s => HandSHeadRun.looksF Rr.prog (boot_heap w.params) s.abs) = some true := by
  intro os
  kernel_rfl
theorem run2 (w : World) : ∀ os : OsState, (endQ w os).map (fun s => HandSHeadRun.seenQ qv names (importedModules Rr.prog.main.body) (fun s => xlAt qv [] s && recOk Rr.toRowW.records s) s.abs) = some (openGood qv names) := by
  intro os
  kernel_rfl
theorem run3 (w : World) : ∀ os : OsState, (endQ w os).map (fun s => src.told (He.frG (HandSHeadRun.getT s) src.as)) = some true := by
  intro os
  kernel_rfl
theorem run4 (w : World) : ∀ os : OsState, (endQ w os).map (fun s => (src.ds.all fun d => d.2.dd.ok (He.frG (HandSHeadRun.getT s) src.as), src.ds.map fun d => He.fnW (He.frG (HandSHeadRun.getT s) src.as) d.2.at_)) = some (true, src.ds.map fun d => d.2.dd.val) := by
  intro os
  kernel_rfl
theorem hrun (w : World) : HandSHeadRun.RunEq Rr qv hk ob 20000 names w := by
  intro os
  obtain ⟨s, e, h1⟩ := Option.map_eq_some_iff.mp (run1 w os)
  have h2 := run2 w os
  have h3 := run3 w os
  have h4 := run4 w os
  show (endQ w os).map _ = _
  rw [e] at h2 h3 h4 ⊢
  have h2' := Option.some.inj h2
  have h3' : src.told (He.frG (HandSHeadRun.getT s) src.as) = true := Option.some.inj h3
  have h4' := Option.some.inj h4
  have h5 : (src.ds.all fun d => d.2.dd.ok (He.frG (HandSHeadRun.getT s) src.as)) = true := congrArg Prod.fst h4'
  have h6 : (src.ds.map fun d => He.fnW (He.frG (HandSHeadRun.getT s) src.as) d.2.at_) = src.ds.map fun d => d.2.dd.val := congrArg Prod.snd h4'
  refine congrArg some (Prod.ext h1 (Prod.ext h2' ?_))
  show ((src.told (He.frG (HandSHeadRun.getT s) src.as) && src.ds.all fun d => d.2.dd.ok (He.frG (HandSHeadRun.getT s) src.as)), src.ds.map fun d => He.fnW (He.frG (HandSHeadRun.getT s) src.as) d.2.at_) = (true, src.ds.map fun d => d.2.dd.val)
  rw [h3', h5, h6]
  rfl
end T69
end
section
set_option Elab.async false
set_option linter.all false
set_option maxRecDepth 100000
namespace Mn
open PySem L2

structure Hm where
  n : Nat
  lo : Nat
  lk : List Nat
  g : Nat → Option O
def Hm.push (h : Hm) (o : O) : Hm := { h with n := h.n + 1, g := fun a => if a = h.n then some o else h.g a }
def Hm.put (h : Hm) (a : Nat) (o : O) : Hm := { h with g := fun b => if b = a then some o else h.g b }

inductive R (α : Type) where
  | st | ok (a : α) (h : Hm) | ex (c : Nat) (fs : List (Nat × W)) (h : Hm)
def R.bind {α β : Type} (x : R α) (f : α → Hm → R β) : R β := match x with
  | .st => .st
  | .ok a h => f a h
  | .ex c fs h => .ex c fs h
inductive F where
  | st | nx (σ : List (Option W)) (h : Hm) | rt (w : W) (h : Hm) | ex (c : Nat) (fs : List (Nat × W)) (σ : List (Option W)) (h : Hm)
def R.fl {α : Type} (x : R α) (σ : List (Option W)) (f : α → Hm → F) : F := match x with
  | .st => .st
  | .ok a h => f a h
  | .ex c fs h => .ex c fs σ h
def F.noex : F → F
  | .ex _ _ _ _ => .st
  | r => r
def F.seq (x : F) (f : List (Option W) → Hm → F) : F := match x with
  | .nx σ h => f σ h
  | y => y

def line : Nat := 16777216
def new (o : O) (h : Hm) : R W := .ok (.ref h.n) (h.push o)
def newL (xs : List W) (h : Hm) : R W := if xs.length ≤ line then new (.lst xs) h else .st
def rdL (w : W) (h : Hm) : Option (List W) := match w with
  | .klst xs => some xs
  | .ref a => (match h.g a with
    | some (.lst xs) => some xs
    | _ => none)
  | _ => none
def seqW (w : W) (h : Hm) : Option (List W) := match w with
  | .tup xs => some xs
  | .ktup xs => some xs
  | w => rdL w h
def keyOf : W → Option Key
  | .int i => some (.inl i)
  | .str s => some (.inr s)
  | _ => none
def wOf : Key → W
  | .inl i => .int i
  | .inr s => .str s
def keysOf : List W → Option (List Key)
  | [] => some []
  | w :: ws => match keyOf w, keysOf ws with
    | some k, some ks => some (k :: ks)
    | _, _ => none
section
variable {κ : Type} [DecidableEq κ]
def look (k : κ) : List (κ × W) → Option W
  | [] => none
  | (j, w) :: r => if j = k then some w else look k r
def putD (k : κ) (v : W) (kvs : List (κ × W)) : List (κ × W) :=
  if (kvs.any fun kv => decide (kv.1 = k)) = true then kvs.map fun kv => if kv.1 = k then (kv.1, v) else kv else kvs ++ [(k, v)]
def dropD (k : κ) (kvs : List (κ × W)) : List (κ × W) := kvs.filter fun kv => decide (kv.1 ≠ k)
end
def dget (d k : W) (h : Hm) : Option (Option W) := match d with
  | .ref a => (match h.g a, k with
    | some (.dK kvs), k => (keyOf k).map fun k => look k kvs
    | some (.dT kvs), .tup ks => (keysOf ks).map fun k => look k kvs
    | _, _ => none)
  | _ => none
def strW (s : Str) : List W := s.cps.toList.map fun c => .str ⟨#[c]⟩
def ixn (n : Nat) (i : Int) : Option Nat := if 0 ≤ i then (if i < n then some i.toNat else none) else if -(n : Int) ≤ i then some (i + n).toNat else none
def sub (x y : W) (h : Hm) : Option W := match x with
  | .ref a => (match h.g a with
    | some (.lst xs) => (match y with
      | .int i => (ixn xs.length i).bind fun j => xs[j]?
      | _ => none)
    | some _ => (dget x y h).bind id
    | none => none)
  | .tup xs => (match y with
    | .int i => (ixn xs.length i).bind fun j => xs[j]?
    | _ => none)
  | .ktup xs => (match y with
    | .int i => (ixn xs.length i).bind fun j => xs[j]?
    | _ => none)
  | .klst xs => (match y with
    | .int i => (ixn xs.length i).bind fun j => xs[j]?
    | _ => none)
  | .str s => (match y with
    | .int i => if s.length ≤ line then ((ixn s.cps.toList.length i).bind fun j => s.cps.toList[j]?).map fun c => .str ⟨#[c]⟩ else none
    | _ => none)
  | _ => none
def cutIx (n d : Nat) : Option Int → Nat
  | none => d
  | some v => ((if v < 0 then max (v + (n : Int)) 0 else min v (n : Int))).toNat
def cut {α : Type} (xs : List α) (lo hi : Option Int) : List α := (xs.drop (cutIx xs.length 0 lo)).take (cutIx xs.length xs.length hi - cutIx xs.length 0 lo)

mutual
def dat : Nat → Hm → W → Option PyData
  | 0, _, _ => none
  | _ + 1, _, .non => some .none
  | _ + 1, _, .bl b => some (.bool b)
  | _ + 1, _, .int i => some (.int i)
  | _ + 1, _, .str s => some (.str s)
  | n + 1, h, .tup xs => (dats n h xs).map .tuple
  | n + 1, h, .ktup xs => (dats n h xs).map .tuple
  | n + 1, h, .klst xs => (dats n h xs).map .list
  | n + 1, h, .ref a => match h.g a with
    | some (.lst xs) => (dats n h xs).map .list
    | _ => none
def dats : Nat → Hm → List W → Option (List PyData)
  | 0, _, _ => none
  | _ + 1, _, [] => some []
  | n + 1, h, x :: xs => match dat n h x, dats n h xs with
    | some d, some ds => some (d :: ds)
    | _, _ => none
end
def eqW (h : Hm) (x y : W) : Option Bool := match x, y with
  | .int i, .int j => some (decide (i = j))
  | .str s, .str t => some (decide (s = t))
  | .bl b, .bl c => some (decide (b = c))
  | .non, .non => some true
  | .non, .int _ => some false | .int _, .non => some false | .non, .str _ => some false | .str _, .non => some false | .non, .bl _ => some false | .bl _, .non => some false
  | .int _, .str _ => some false | .str _, .int _ => some false | .bl _, .str _ => some false | .str _, .bl _ => some false
  | x, y => match dat 10000 h x, dat 10000 h y with
    | some d, some e => if SeqAt.shaped d && SeqAt.shaped e then some (PyData.eqv d e) else none
    | _, _ => none

def one (s : Str) : Option Nat := match s.cps.toList with
  | [c] => some c
  | _ => none
def binW (o : BO) (x y : W) (h : Hm) : R W := match o with
  | .add => (match x, y with
    | .int i, .int j => .ok (.int (i + j)) h
    | .str s, .str t => if s.length + t.length ≤ line then .ok (.str (s ++ t)) h else .st
    | .ref a, .ref b => (match h.g a, h.g b with
      | some (.lst xs), some (.lst ys) => newL (xs ++ ys) h
      | _, _ => .st)
    | .tup (x :: xs), .tup ys => if (x :: xs).length + ys.length ≤ line then .ok (.tup (x :: xs ++ ys)) h else .st
    | _, _ => .st)
  | .sub => (match x, y with
    | .int i, .int j => .ok (.int (i - j)) h
    | _, _ => .st)
  | .mul => (match x, y with
    | .int i, .int j => if i.natAbs.log2 + j.natAbs.log2 < 1000000 then .ok (.int (i * j)) h else .st
    | .str s, .int k => if 0 ≤ k ∧ k ≤ 1000 ∧ s.length ≤ 1000 then .ok (.str (Txt.mul s k)) h else .st
    | .ref a, .int k => (match h.g a with
      | some (.lst xs) => if -(2 ^ 63) ≤ k ∧ k < 2 ^ 63 ∧ xs.length * k.toNat ≤ line then new (.lst (List.replicate k.toNat xs).flatten) h else .st
      | _ => .st)
    | _, _ => .st)
  | .fdiv => (match x, y with
    | .int i, .int j => if 0 < j ∧ j.natAbs.log2 < 9000 then .ok (.int (i / j)) h else .st
    | _, _ => .st)
  | .mod => (match x, y with
    | .int i, .int j => if 0 < j then .ok (.int (i % j)) h else .st
    | _, _ => .st)
  | .pow => (match x, y with
    | .int i, .int j => if 0 ≤ j ∧ j ≤ 1000000 ∧ i.natAbs < 2 ^ 64 then .ok (.int (i ^ j.toNat)) h else .st
    | _, _ => .st)
def flat : W → Bool
  | .non => true
  | .bl _ => true
  | .int _ => true
  | .str _ => true
  | _ => false
def eqF : W → W → Bool
  | .non, .non => true
  | .bl a, .bl b => a == b
  | .bl a, .int b => (if a then 1 else 0) == b
  | .int a, .bl b => a == (if b then 1 else 0)
  | .int a, .int b => a == b
  | .str a, .str b => a == b
  | _, _ => false
def inL (h : Hm) (l : Bool) (x : W) (xs : List W) : Option Bool := match flat x && xs.all flat with
  | true => some (xs.any fun y => eqF y x)
  | false => if l then (match dat 10000 h x, dats 10000 h xs with
    | some d, some ds => if SeqAt.shaped d && SeqAt.shaped (.list ds) then some (ds.any fun e => PyData.eqv e d) else none
    | _, _ => none) else none
def inW (x y : W) (h : Hm) : Option Bool := match y with
  | .str t => (match x with
    | .str s => (one s).map fun c => decide (c ∈ t.cps.toList)
    | _ => none)
  | .ref a => (match h.g a with
    | some (.lst xs) => inL h true x xs
    | some (.ins _ _) => none
    | some _ => (dget y x h).map Option.isSome
    | none => none)
  | .klst xs => inL h true x xs
  | y => (seqW y h).bind (inL h false x)
def cmpW (o : CO) (x y : W) (h : Hm) : Option Bool := match o with
  | .eq => eqW h x y
  | .ne => (eqW h x y).map (!·)
  | .lt => (match x, y with
    | .int i, .int j => some (decide (i < j))
    | _, _ => none)
  | .le => (match x, y with
    | .int i, .int j => some (decide (i ≤ j))
    | _, _ => none)
  | .gt => (match x, y with
    | .int i, .int j => some (decide (j < i))
    | _, _ => none)
  | .ge => (match x, y with
    | .int i, .int j => some (decide (j ≤ i))
    | _, _ => none)
  | .isin => inW x y h
  | .notin => (inW x y h).map (!·)
  | .isn => (match x, y with
    | .non, .non => some true
    | _, .non => some false
    | .bl a, .bl b => some (decide (a = b))
    | _, _ => none)
  | .isnotn => (match x, y with
    | .non, .non => some false
    | _, .non => some true
    | .bl a, .bl b => some (!decide (a = b))
    | _, _ => none)
def lift (h : Hm) : Option Bool → R W
  | some b => .ok (.bl b) h
  | none => .st
def truW (x : W) (h : Hm) : Option Bool := match x with
  | .non => some false
  | .bl b => some b
  | .int i => some (i != 0)
  | .str s => if s.length ≤ line then some ((s.length : Int) != 0) else none
  | .ref a => (match h.g a with
    | some (.lst xs) => some (!xs.isEmpty)
    | _ => none)
  | .tup xs => some (!xs.isEmpty)
  | .ktup xs => some (!xs.isEmpty)
  | .klst xs => some (!xs.isEmpty)

def insD {α : Type} (le : α → α → Bool) (x : α) : List α → List α
  | [] => [x]
  | y :: ys => if le x y then x :: y :: ys else y :: insD le x ys
def sortD {α : Type} (le : α → α → Bool) : List α → List α
  | [] => []
  | x :: xs => insD le x (sortD le xs)
def tupled : PyData → Bool
  | .tuple (_ :: _) => true
  | _ => false
def plainD : PyData → Bool
  | .tuple _ => false
  | .none => false
  | _ => true
def sortable (ds : List PyData) : Bool := (ds.all fun d => ds.all fun e => PySem.W.alike d e) && (ds.all tupled || ds.all plainD) && ds.all fun d => decide (d.depth ≤ 64)
def sortW (h : Hm) (xs : List W) : Option (List W) := match dats 10000 h xs with
  | some ds => if sortable ds && decide (xs.length ≤ line) then some ((sortD (PySem.W.dataLe false fun p : W × PyData => p.2) (xs.zip ds)).map (·.1)) else none
  | none => none
def intsL : List W → Option (List Int)
  | [] => some []
  | .int i :: r => (intsL r).map (i :: ·)
  | _ => none
def blsL : List W → Option (List Bool)
  | [] => some []
  | .bl i :: r => (blsL r).map (i :: ·)
  | _ => none
def strsL : List W → Option (List Str)
  | [] => some []
  | .str i :: r => (strsL r).map (i :: ·)
  | _ => none

def lenW (x : W) (h : Hm) : Option Nat := match x with
  | .str s => if s.length ≤ line then some s.length else none
  | .ref a => (match h.g a with
    | some (.lst xs) => some xs.length
    | some (.dK kvs) => some kvs.length
    | some (.dT kvs) => some kvs.length
    | _ => none)
  | x => (seqW x h).map List.length
inductive TyT | non | bl | int | str | tup | lst | dK
  deriving DecidableEq
def tyW (x : W) (h : Hm) : Option TyT := match x with
  | .non => some .non
  | .bl _ => some .bl
  | .int _ => some .int
  | .str _ => some .str
  | .tup _ => some .tup
  | .ktup _ => some .tup
  | .klst _ => some .lst
  | .ref a => (match h.g a with
    | some (.lst _) => some .lst
    | some (.dK _) => some .dK
    | _ => none)
def isT (t T : TyT) : Bool := decide (t = T) || (decide (t = .bl) && decide (T = .int))
def isW (T : TyT) (x : W) (h : Hm) : R W := match tyW x h with
  | some t => .ok (.bl (isT t T)) h
  | none => .st
def bi (f : BI) (ws : List W) (h : Hm) : R W := match f, ws with
  | .len, [x] => (match lenW x h with
    | some n => .ok (.int n) h
    | none => .st)
  | .abs, [.int i] => .ok (.int (if i < 0 then -i else i)) h
  | .min, [.int i, .int j] => .ok (.int (if j < i then j else i)) h
  | .max, [.int i, .int j] => .ok (.int (if j > i then j else i)) h
  | .min, [x] => (match (seqW x h).bind intsL with
    | some (i :: is) => .ok (.int (is.foldl min i)) h
    | _ => .st)
  | .max, [x] => (match (seqW x h).bind intsL with
    | some (i :: is) => .ok (.int (is.foldl max i)) h
    | _ => .st)
  | .sum, [x] => (match (rdL x h).bind intsL with
    | some is => .ok (.int is.sum) h
    | _ => .st)
  | .any, [x] => (match (rdL x h).bind blsL with
    | some bs => .ok (.bl (bs.any id)) h
    | _ => .st)
  | .all, [x] => (match (rdL x h).bind blsL with
    | some bs => .ok (.bl (bs.all id)) h
    | _ => .st)
  | .int, [.int i] => .ok (.int i) h
  | .int, [.bl b] => .ok (.int (if b then 1 else 0)) h
  | .int, [.str s] => (match PySem.intText? s with
    | some n => if s.length ≤ 640 then .ok (.int n) h else .st
    | none => .st)
  | .str, [.int i] => if i.natAbs.log2 < 1920 then .ok (.str (toString i)) h else .st
  | .str, [.str s] => .ok (.str s) h
  | .list, [x] => (match x with
    | .ref a => (match h.g a with
      | some (.lst xs) => new (.lst xs) h
      | some (.dK kvs) => new (.lst (kvs.map fun kv => wOf kv.1)) h
      | some (.dT kvs) => new (.lst (kvs.map fun kv => .tup (kv.1.map wOf))) h
      | _ => .st)
    | x => (match seqW x h with
      | some xs => new (.lst xs) h
      | none => .st))
  | .tuple, [x] => (match x with
    | .tup xs => .ok (.tup xs) h
    | .ktup xs => .ok (.ktup xs) h
    | x => (match rdL x h with
      | some xs => .ok (.tup xs) h
      | none => .st))
  | .sorted, [x] => (match (rdL x h).bind (sortW h) with
    | some ys => new (.lst ys) h
    | none => .st)
  | .lenset, [x] => (match seqW x h with
    | some xs => (match intsL xs with
      | some is => if is.length ≤ 4000 then .ok (.int (is.foldl PyProof.Rows.step_dedup []).length) h else .st
      | none => (match strsL xs with
        | some ss => if ss.length ≤ 1 then .ok (.int ss.length) h else .st
        | none => .st))
    | none => .st)
  | .listrev, [x] => (match rdL x h with
    | some xs => new (.lst xs.reverse) h
    | none => .st)
  | .listitems, [.ref a] => (match h.g a with
    | some (.dK kvs) => if a ∈ h.lk then .st else new (.lst (kvs.map fun kv => .tup [wOf kv.1, kv.2])) h
    | _ => .st)
  | .dict, [.ref a] => (match h.g a with
    | some (.dK kvs) => new (.dK kvs) h
    | _ => .st)
  | .islist, [x] => isW .lst x h
  | .isbool, [x] => isW .bl x h
  | .isint, [x] => isW .int x h
  | .isstr, [x] => isW .str x h
  | _, _ => .st

inductive KT | list | dict | str | tuple
  deriving DecidableEq
def kindW (x : W) (h : Hm) : Option KT := match x with
  | .str _ => some .str
  | .ktup _ => some .tuple
  | .klst _ => some .list
  | .ref a => (match h.g a with
    | some (.lst _) => some .list
    | some (.dK _) => some .dict
    | some (.dT _) => some .dict
    | _ => none)
  | _ => none
def okM : KT → BM → Bool
  | .list, .append => true | .list, .extend => true | .list, .pop => true | .list, .index => true
  | .dict, .pop => true | .dict, .get => true
  | .str, .index => true | .str, .join => true | .str, .split => true | .str, .partition => true | .str, .startswith => true
  | .tuple, .index => true
  | _, _ => false
def setL (h : Hm) (a : Nat) (xs : List W) (w : W) : R W := if h.lo ≤ a ∧ xs.length ≤ line then .ok w (h.put a (.lst xs)) else .st
def setD (h : Hm) (a : Nat) (o : O) (w : W) : R W := if h.lo ≤ a ∧ a ∉ h.lk then .ok w (h.put a o) else .st
def kst : W → Bool
  | .klst _ => true
  | _ => false
def idxL (x : W) : List W → Option Nat
  | [] => none
  | y :: ys => if eqF y x then some 0 else (idxL x ys).map (· + 1)
def idxS (x : Str) : List Str → Option Nat
  | [] => none
  | y :: ys => if y = x then some 0 else (idxS x ys).map (· + 1)
def bm (m : BM) (o : W) (ws : List W) (h : Hm) : R W := match m with
  | .append => (match o, ws with
    | .ref a, [x] => (match h.g a with
      | some (.lst xs) => setL h a (xs ++ [x]) .non
      | _ => .st)
    | _, _ => .st)
  | .extend => (match o, ws with
    | .ref a, [y] => (match h.g a, seqW y h with
      | some (.lst xs), some ys => if kst y then .st else setL h a (xs ++ ys) .non
      | _, _ => .st)
    | _, _ => .st)
  | .pop => (match o, ws with
    | .ref a, [] => (match h.g a with
      | some (.lst xs) => (match xs.getLast? with
        | some x => setL h a xs.dropLast x
        | none => .st)
      | _ => .st)
    | .ref a, [k] => (match h.g a with
      | some (.lst xs) => (match k with
        | .int 0 => (match xs with
          | x :: xs => setL h a xs x
          | [] => .st)
        | _ => .st)
      | some (.dK kvs) => (match keyOf k with
        | some k => (match look k kvs with
          | some w => setD h a (.dK (dropD k kvs)) w
          | none => .st)
        | none => .st)
      | _ => .st)
    | .ref a, [k, d] => (match h.g a with
      | some (.dK kvs) => (match keyOf k with
        | some k => (match look k kvs with
          | some w => setD h a (.dK (dropD k kvs)) w
          | none => if a ∉ h.lk then .ok d h else .st)
        | none => .st)
      | _ => .st)
    | _, _ => .st)
  | .index => (match o, ws with
    | .str t, [.str s] => (match PySem.Builtin.Str.occurrences t s 0 t.length 1 with
      | j :: _ => .ok (.int j) h
      | [] => .st)
    | .ktup xs, [.str s] => (match (strsL xs).bind (idxS s) with
      | some j => .ok (.int j) h
      | none => .st)
    | o, [x] => (match rdL o h with
      | some xs => if flat x && xs.all flat then (match idxL x xs with
        | some j => .ok (.int j) h
        | none => .st) else .st
      | none => .st)
    | _, _ => .st)
  | .get => (match ws with
    | [k, d] => (match dget o k h with
      | some r => .ok (r.getD d) h
      | none => .st)
    | _ => .st)
  | .join => (match o, ws with
    | .str s, [x] => (match (seqW x h).bind strsL with
      | some ys => if (ys.map (·.length)).sum + ys.length * s.length ≤ line then .ok (.str (Txt.join s ys)) h else .st
      | none => .st)
    | _, _ => .st)
  | .split => (match o, ws with
    | .str s, [.str t] => if t.length ≠ 0 ∧ s.length + 2 ≤ line then new (.lst ((Txt.split s t).map .str)) h else .st
    | _, _ => .st)
  | .partition => (match o, ws with
    | .str s, [.str t] => if t.length ≠ 0 ∧ s.length ≤ line then .ok (.tup [.str (Txt.partition s t).1, .str (Txt.partition s t).2.1, .str (Txt.partition s t).2.2]) h else .st
    | _, _ => .st)
  | .startswith => (match o, ws with
    | .str s, [.str t] => .ok (.bl (Txt.startswith s t)) h
    | _, _ => .st)
  | _ => .st

mutual
def W.same : W → W → Bool
  | .non, .non => true
  | .bl a, .bl b => a == b
  | .int a, .int b => decide (a = b)
  | .str a, .str b => decide (a = b)
  | .ref a, .ref b => Nat.beq a b
  | .tup xs, .tup ys => sames xs ys
  | .ktup xs, .ktup ys => sames xs ys
  | .klst xs, .klst ys => sames xs ys
  | _, _ => false
def sames : List W → List W → Bool
  | [], [] => true
  | x :: xs, y :: ys => W.same x y && sames xs ys
  | _, _ => false
end
structure Plan where
  xs : List W
  gd : List (Nat × List W)
def stays (h : Hm) : List (Nat × List W) → Bool
  | [] => true
  | (a, xs) :: r => (match h.g a with
    | some (.lst ys) => sames xs ys
    | _ => false) && stays h r
def isD : Option O → Bool
  | some (.dK _) => true
  | some (.dT _) => true
  | _ => false
def planL (w : W) (h : Hm) : Option Plan := match w with
  | .ref a => (match h.g a with
    | some (.lst xs) => some ⟨xs, [(a, xs)]⟩
    | _ => none)
  | .klst xs => some ⟨xs, []⟩
  | _ => none
def plan (w : W) (h : Hm) : Option Plan := match w with
  | .str s => some ⟨strW s, []⟩
  | .tup xs => some ⟨xs, []⟩
  | .ktup xs => some ⟨xs, []⟩
  | .ref a => (match h.g a with
    | some (.dK kvs) => if a ∈ h.lk then some ⟨kvs.map fun kv => wOf kv.1, []⟩ else none
    | some (.dT kvs) => if a ∈ h.lk then some ⟨kvs.map fun kv => .tup (kv.1.map wOf), []⟩ else none
    | _ => planL (.ref a) h)
  | w => planL w h
def enumL : Nat → List W → List W
  | _, [] => []
  | k, x :: xs => .tup [.int k, x] :: enumL (k + 1) xs
def zipL : List W → List W → List W
  | x :: xs, y :: ys => .tup [x, y] :: zipL xs ys
  | _, _ => []
def rngL : Nat → Int → List W
  | 0, _ => []
  | n + 1, i => .int i :: rngL n (i + 1)
def setSlots : List Nat → List W → List (Option W) → List (Option W)
  | i :: is, w :: ws, σ => setSlots is ws (σ.set i (some w))
  | _, _, σ => σ
def store (t : Tg) (w : W) (σ : List (Option W)) (h : Hm) : Option (List (Option W)) := match t with
  | .one i => some (σ.set i (some w))
  | .row is => (match w with
    | .tup ws => if ws.length = is.length then some (setSlots is ws σ) else none
    | .ktup ws => if ws.length = is.length then some (setSlots is ws σ) else none
    | w => (match rdL w h with
      | some ws => if ws.length = is.length then some (setSlots is ws σ) else none
      | none => none))
def Hm.lock (h : Hm) (a : Nat) : Hm := { h with lk := a :: h.lk }
def Hm.relk (h : Hm) (l : List Nat) : Hm := { h with lk := l }
def R.relk {α : Type} (l : List Nat) : R α → R α
  | .ok a h => .ok a (h.relk l)
  | .ex _ _ _ => .st
  | .st => .st
def F.relk (l : List Nat) : F → F
  | .nx σ h => .nx σ (h.relk l)
  | .rt w h => .rt w (h.relk l)
  | .ex _ _ _ _ => .st
  | .st => .st
def toLock (x : R W) : Option Nat := match x with
  | .ok (.ref a) h => if isD (h.g a) then some a else none
  | _ => none
def withLock {β : Type} (st : β) (relk : List Nat → β → β) (l : Option Nat) (h : Hm) (f : Hm → β) : β := match l with
  | none => f h
  | some a => if a ∈ h.lk then f h else if a < h.n ∧ isD (h.g a) = true then relk h.lk (f (h.lock a)) else st
def R.noex {α : Type} : R α → R α
  | .ex _ _ _ => .st
  | r => r
def compL (gd : List (Nat × List W)) (f : W → Hm → R (Option W)) : List W → Hm → R (List W)
  | [], h => if stays h gd then .ok [] h else .st
  | x :: xs, h => if stays h gd then (f x h).noex.bind fun y h => (compL gd f xs h).bind fun ys h => match y with
    | some y => .ok (y :: ys) h
    | none => .ok ys h
    else .st
def forL (gd : List (Nat × List W)) (f : W → List (Option W) → Hm → F) : List W → List (Option W) → Hm → F
  | [], σ, h => if stays h gd then .nx σ h else .st
  | x :: xs, σ, h => if stays h gd then (f x σ h).seq fun σ h => forL gd f xs σ h else .st
def whileL (c : List (Option W) → Hm → R Bool) (b : List (Option W) → Hm → F) : Nat → List (Option W) → Hm → F
  | 0, _, _ => .st
  | n + 1, σ, h => (c σ h).fl σ fun t h => match t with
    | true => (b σ h).seq fun σ h => whileL c b n σ h
    | false => .nx σ h
structure Cf where
  call : Nat → List W → Hm → R W
  meth : Nat → Nat → Option Nat
  has : Nat → Bool
  init : Nat → Option Nat
  bad : Nat → Nat → Bool
def putF (f : Nat) (w : W) : List (Nat × W) → List (Nat × W)
  | [] => [(f, w)]
  | (j, x) :: r => if j = f then (j, w) :: r else (j, x) :: putF f w r
def fldW (bad : Nat → Nat → Bool) (w : W) (f : Nat) (h : Hm) : Option W := match w with
  | .ref a => (match h.g a with
    | some (.ins c fs) => if bad c f then none else look f fs
    | _ => none)
  | _ => none
def cutB (l : Ex) (w : W) : Option (Option Int) := match l with
  | .con .non => some none
  | _ => (match w with
    | .int i => some (some i)
    | _ => none)
def cutV' (x : W) (lo hi : Option Int) (h : Hm) : R W := match x with
  | .tup xs => .ok (.tup (cut xs lo hi)) h
  | .str s => if s.length ≤ line then .ok (.str ⟨(cut s.cps.toList lo hi).toArray⟩) h else .st
  | x => (match rdL x h with
    | some xs => new (.lst (cut xs lo hi)) h
    | none => .st)
def dpairs : List W → List (Key × W) → Option (List (Key × W))
  | [], d => some d
  | k :: w :: r, d => (keyOf k).bind fun k => dpairs r (putD k w d)
  | _, _ => none
def sett (d k v : W) (h : Hm) : R W := match d with
  | .ref a => (match h.g a with
    | some (.lst xs) => (match k with
      | .int i => (match ixn xs.length i with
        | some j => setL h a (xs.set j v) .non
        | none => .st)
      | _ => .st)
    | some (.dK kvs) => (match keyOf k with
      | some k => if kvs.length < line then setD h a (.dK (putD k v kvs)) .non else .st
      | none => .st)
    | some (.dT kvs) => (match k with
      | .tup ks => (match keysOf ks with
        | some k => if kvs.length < line then setD h a (.dT (putD k v kvs)) .non else .st
        | none => .st)
      | _ => .st)
    | _ => .st)
  | _ => .st
def toW (r : R Bool) : R W := r.bind fun b h => .ok (.bl b) h
def asB (x : W) (h : Hm) : R Bool := match x with
  | .bl b => .ok b h
  | _ => .st
def truR (r : R W) : R Bool := r.bind fun x h => match truW x h with
  | some t => .ok t h
  | none => .st
def dual (md : Bool) (r : R W) : R W := match md with
  | false => r
  | true => toW (truR r)
theorem toW_asB (r : R Bool) : (toW r).bind asB = r := by
  cases r <;> rfl
mutual
def evX (C : Cf) : Ex → Bool → List (Option W) → Hm → R W
  | .loc i, md, σ, h => dual md (match σ[i]? with
        | some (some w) => .ok w h
        | _ => .st)
  | .con w, md, _, h => dual md (.ok w h)
  | .bin o a b, md, σ, h => dual md ((evX C a false σ h).bind fun x h => (evX C b false σ h).bind fun y h => binW o x y h)
  | .neg a, md, σ, h => dual md ((evX C a false σ h).bind fun x h => match x with
        | .int i => .ok (.int (-i)) h
        | _ => .st)
  | .cmp o a b, md, σ, h => match md with
    | false => ((evX C a false σ h).bind fun x h => (evX C b false σ h).bind fun y h => lift h (cmpW o x y h))
    | true => toW ((evX C a false σ h).bind fun x h => (evX C b false σ h).bind fun y h => match cmpW o x y h with
        | some t => .ok t h
        | none => .st)
  | .cmp2 o p a b c, md, σ, h => match md with
    | false => ((evX C a false σ h).bind fun x h => (evX C b false σ h).bind fun y h => match cmpW o x y h with
        | some true => (evX C c false σ h).bind fun z h => lift h (cmpW p y z h)
        | some false => .ok (.bl false) h
        | none => .st)
    | true => toW ((evX C a false σ h).bind fun x h => (evX C b false σ h).bind fun y h => match cmpW o x y h with
        | some true => (evX C c false σ h).bind fun z h => (match cmpW p y z h with
          | some t => .ok t h
          | none => .st)
        | some false => .ok false h
        | none => .st)
  | .and a b, md, σ, h => match md with
    | false => ((evX C a false σ h).bind fun x h => match x with
        | .bl true => evX C b false σ h
        | .bl false => .ok (.bl false) h
        | _ => .st)
    | true => toW (((evX C a true σ h).bind asB).bind fun t h => match t with
        | true => (evX C b true σ h).bind asB
        | false => .ok false h)
  | .or a b, md, σ, h => match md with
    | false => ((evX C a false σ h).bind fun x h => match x with
        | .bl false => evX C b false σ h
        | .bl true => .ok (.bl true) h
        | _ => .st)
    | true => toW (((evX C a true σ h).bind asB).bind fun t h => match t with
        | true => .ok true h
        | false => (evX C b true σ h).bind asB)
  | .not a, md, σ, h => match md with
    | false => ((evX C a false σ h).bind fun x h => match truW x h with
        | some t => .ok (.bl (!t)) h
        | none => .st)
    | true => toW (((evX C a true σ h).bind asB).bind fun t h => .ok (!t) h)
  | .tup es, md, σ, h => dual md ((evEs C es σ h).bind fun xs h => if xs.length ≤ line then .ok (.tup xs) h else .st)
  | .lst es, md, σ, h => dual md ((evEs C es σ h).bind fun xs h => newL xs h)
  | .dict t, md, _, h => dual md (match t with
        | true => new (.dT []) h
        | false => new (.dK []) h)
  | .disp es, md, σ, h => dual md ((evEs C es σ h).bind fun xs h => match dpairs xs [] with
        | some d => if xs.length ≤ 30 then new (.dK d) h else .st
        | none => .st)
  | .attr a f, md, σ, h => dual md ((evX C a false σ h).bind fun x h => match fldW C.bad x f h with
        | some w => .ok w h
        | none => .st)
  | .sub a b, md, σ, h => dual md ((evX C a false σ h).bind fun x h => (evX C b false σ h).bind fun y h => match Mn.sub x y h with
        | some w => .ok w h
        | none => .st)
  | .cut a l u, md, σ, h => dual md ((evX C a false σ h).bind fun x h => (evX C l false σ h).bind fun y h => match cutB l y with
        | some lo => (evX C u false σ h).bind fun z h => (match cutB u z with
          | some hi => cutV' x lo hi h
          | none => .st)
        | none => .st)
  | .call f es, md, σ, h => dual md (match C.has f with
        | true => (evEs C es σ h).bind fun xs h => C.call f xs h
        | false => .st)
  | .meth o m es, md, σ, h => dual md ((evX C o false σ h).bind fun x h => match x with
        | .ref a => (match h.g a with
          | some (.ins c fs) => (match C.meth c m, look m fs with
            | some f, none => (evEs C es σ h).bind fun xs h => C.call f (x :: xs) h
            | _, _ => .st)
          | _ => .st)
        | _ => .st)
  | .make c es, md, σ, h => dual md (match C.init c with
        | some f => (evEs C es σ h).bind fun xs h => (C.call f (.ref h.n :: xs) (h.push (.ins c []))).bind fun r h' => match r with
          | .non => .ok (.ref h.n) h'
          | _ => .st
        | none => .st)
  | .bi f es, md, σ, h => dual md ((evEs C es σ h).bind fun xs h => Mn.bi f xs h)
  | .bm m o es, md, σ, h => dual md ((evX C o false σ h).bind fun x h => match kindW x h with
        | some T => if okM T m then (evEs C es σ h).bind fun xs h => if kindW x h = some T then Mn.bm m x xs h else .st else .st
        | none => .st)
  | .comp e t it c, md, σ, h => dual md (withLock .st R.relk (toLock (evL C it σ h)) h fun h => (evI C it σ h).bind fun p h => (compL p.gd (fun x h => match store t x σ h with
          | some σ => ((evX C c true σ h).bind asB).bind fun b h => match b with
            | true => (evX C e false σ h).bind fun y h => .ok (some y) h
            | false => .ok none h
          | none => .st) p.xs h).bind fun ys h => newL ys h)
  | .no, md, _, _ => dual md (.st)
def evEs (C : Cf) : Exs → List (Option W) → Hm → R (List W)
  | .nil, _, h => .ok [] h
  | .cons e es, σ, h => (evX C e false σ h).bind fun x h => (evEs C es σ h).bind fun xs h => .ok (x :: xs) h
def evL (C : Cf) : It → List (Option W) → Hm → R W
  | .val e, σ, h => evX C e false σ h
  | _, _, _ => .st
def evI (C : Cf) : It → List (Option W) → Hm → R Plan
  | .val e, σ, h => (evX C e false σ h).bind fun x h => match plan x h with
    | some p => .ok p h
    | none => .st
  | .rng a b, σ, h => (evX C a false σ h).bind fun x h => (evX C b false σ h).bind fun y h => match x, y with
    | .int i, .int j => if -(2 ^ 62) ≤ i ∧ i < 2 ^ 62 ∧ -(2 ^ 62) ≤ j ∧ j < 2 ^ 62 then .ok ⟨rngL (j - i).toNat i, []⟩ h else .st
    | _, _ => .st
  | .enum e, σ, h => (evX C e false σ h).bind fun x h => match planL x h with
    | some p => .ok { p with xs := enumL 0 p.xs } h
    | none => .st
  | .zip a b, σ, h => (evX C a false σ h).bind fun x h => (evX C b false σ h).bind fun y h => match planL x h, planL y h with
    | some p, some q => .ok ⟨zipL p.xs q.xs, p.gd ++ q.gd⟩ h
    | _, _ => .st
end
def evE (C : Cf) (e : Ex) (σ : List (Option W)) (h : Hm) : R W := evX C e false σ h
def evT (C : Cf) (e : Ex) (σ : List (Option W)) (h : Hm) : R Bool := (evX C e true σ h).bind asB
section
variable {C : Cf} {σ : List (Option W)} {h : Hm}
theorem evE_loc {i : Nat} : evE C (.loc i) σ h = (match σ[i]? with
    | some (some w) => .ok w h
    | _ => .st) := rfl
theorem evT_loc {i : Nat} : evT C (.loc i) σ h = truR (evE C (.loc i) σ h) := toW_asB _
theorem evE_con {w : W} : evE C (.con w) σ h = (.ok w h) := rfl
theorem evT_con {w : W} : evT C (.con w) σ h = truR (evE C (.con w) σ h) := toW_asB _
theorem evE_bin {o : BO} {a : Ex} {b : Ex} : evE C (.bin o a b) σ h = ((evE C a σ h).bind fun x h => (evE C b σ h).bind fun y h => binW o x y h) := rfl
theorem evT_bin {o : BO} {a : Ex} {b : Ex} : evT C (.bin o a b) σ h = truR (evE C (.bin o a b) σ h) := toW_asB _
theorem evE_neg {a : Ex} : evE C (.neg a) σ h = ((evE C a σ h).bind fun x h => match x with
    | .int i => .ok (.int (-i)) h
    | _ => .st) := rfl
theorem evT_neg {a : Ex} : evT C (.neg a) σ h = truR (evE C (.neg a) σ h) := toW_asB _
theorem evE_cmp {o : CO} {a : Ex} {b : Ex} : evE C (.cmp o a b) σ h = ((evE C a σ h).bind fun x h => (evE C b σ h).bind fun y h => lift h (cmpW o x y h)) := rfl
theorem evT_cmp {o : CO} {a : Ex} {b : Ex} : evT C (.cmp o a b) σ h = ((evE C a σ h).bind fun x h => (evE C b σ h).bind fun y h => match cmpW o x y h with
    | some t => .ok t h
    | none => .st) := toW_asB _
theorem evE_cmp2 {o : CO} {p : CO} {a : Ex} {b : Ex} {c : Ex} : evE C (.cmp2 o p a b c) σ h = ((evE C a σ h).bind fun x h => (evE C b σ h).bind fun y h => match cmpW o x y h with
    | some true => (evE C c σ h).bind fun z h => lift h (cmpW p y z h)
    | some false => .ok (.bl false) h
    | none => .st) := rfl
theorem evT_cmp2 {o : CO} {p : CO} {a : Ex} {b : Ex} {c : Ex} : evT C (.cmp2 o p a b c) σ h = ((evE C a σ h).bind fun x h => (evE C b σ h).bind fun y h => match cmpW o x y h with
    | some true => (evE C c σ h).bind fun z h => (match cmpW p y z h with
      | some t => .ok t h
      | none => .st)
    | some false => .ok false h
    | none => .st) := toW_asB _
theorem evE_and {a : Ex} {b : Ex} : evE C (.and a b) σ h = ((evE C a σ h).bind fun x h => match x with
    | .bl true => evE C b σ h
    | .bl false => .ok (.bl false) h
    | _ => .st) := rfl
theorem evT_and {a : Ex} {b : Ex} : evT C (.and a b) σ h = ((evT C a σ h).bind fun t h => match t with
    | true => evT C b σ h
    | false => .ok false h) := toW_asB _
theorem evE_or {a : Ex} {b : Ex} : evE C (.or a b) σ h = ((evE C a σ h).bind fun x h => match x with
    | .bl false => evE C b σ h
    | .bl true => .ok (.bl true) h
    | _ => .st) := rfl
theorem evT_or {a : Ex} {b : Ex} : evT C (.or a b) σ h = ((evT C a σ h).bind fun t h => match t with
    | true => .ok true h
    | false => evT C b σ h) := toW_asB _
theorem evE_not {a : Ex} : evE C (.not a) σ h = ((evE C a σ h).bind fun x h => match truW x h with
    | some t => .ok (.bl (!t)) h
    | none => .st) := rfl
theorem evT_not {a : Ex} : evT C (.not a) σ h = ((evT C a σ h).bind fun t h => .ok (!t) h) := toW_asB _
theorem evE_tup {es : Exs} : evE C (.tup es) σ h = ((evEs C es σ h).bind fun xs h => if xs.length ≤ line then .ok (.tup xs) h else .st) := rfl
theorem evT_tup {es : Exs} : evT C (.tup es) σ h = truR (evE C (.tup es) σ h) := toW_asB _
theorem evE_lst {es : Exs} : evE C (.lst es) σ h = ((evEs C es σ h).bind fun xs h => newL xs h) := rfl
theorem evT_lst {es : Exs} : evT C (.lst es) σ h = truR (evE C (.lst es) σ h) := toW_asB _
theorem evE_dict {t : Bool} : evE C (.dict t) σ h = (match t with
    | true => new (.dT []) h
    | false => new (.dK []) h) := rfl
theorem evT_dict {t : Bool} : evT C (.dict t) σ h = truR (evE C (.dict t) σ h) := toW_asB _
theorem evE_disp {es : Exs} : evE C (.disp es) σ h = ((evEs C es σ h).bind fun xs h => match dpairs xs [] with
    | some d => if xs.length ≤ 30 then new (.dK d) h else .st
    | none => .st) := rfl
theorem evT_disp {es : Exs} : evT C (.disp es) σ h = truR (evE C (.disp es) σ h) := toW_asB _
theorem evE_attr {a : Ex} {f : Nat} : evE C (.attr a f) σ h = ((evE C a σ h).bind fun x h => match fldW C.bad x f h with
    | some w => .ok w h
    | none => .st) := rfl
theorem evT_attr {a : Ex} {f : Nat} : evT C (.attr a f) σ h = truR (evE C (.attr a f) σ h) := toW_asB _
theorem evE_sub {a : Ex} {b : Ex} : evE C (.sub a b) σ h = ((evE C a σ h).bind fun x h => (evE C b σ h).bind fun y h => match Mn.sub x y h with
    | some w => .ok w h
    | none => .st) := rfl
theorem evT_sub {a : Ex} {b : Ex} : evT C (.sub a b) σ h = truR (evE C (.sub a b) σ h) := toW_asB _
theorem evE_cut {a : Ex} {l : Ex} {u : Ex} : evE C (.cut a l u) σ h = ((evE C a σ h).bind fun x h => (evE C l σ h).bind fun y h => match cutB l y with
    | some lo => (evE C u σ h).bind fun z h => (match cutB u z with
      | some hi => cutV' x lo hi h
      | none => .st)
    | none => .st) := rfl
theorem evT_cut {a : Ex} {l : Ex} {u : Ex} : evT C (.cut a l u) σ h = truR (evE C (.cut a l u) σ h) := toW_asB _
theorem evE_call {f : Nat} {es : Exs} : evE C (.call f es) σ h = (match C.has f with
    | true => (evEs C es σ h).bind fun xs h => C.call f xs h
    | false => .st) := rfl
theorem evT_call {f : Nat} {es : Exs} : evT C (.call f es) σ h = truR (evE C (.call f es) σ h) := toW_asB _
theorem evE_meth {o : Ex} {m : Nat} {es : Exs} : evE C (.meth o m es) σ h = ((evE C o σ h).bind fun x h => match x with
    | .ref a => (match h.g a with
      | some (.ins c fs) => (match C.meth c m, look m fs with
        | some f, none => (evEs C es σ h).bind fun xs h => C.call f (x :: xs) h
        | _, _ => .st)
      | _ => .st)
    | _ => .st) := rfl
theorem evT_meth {o : Ex} {m : Nat} {es : Exs} : evT C (.meth o m es) σ h = truR (evE C (.meth o m es) σ h) := toW_asB _
theorem evE_make {c : Nat} {es : Exs} : evE C (.make c es) σ h = (match C.init c with
    | some f => (evEs C es σ h).bind fun xs h => (C.call f (.ref h.n :: xs) (h.push (.ins c []))).bind fun r h' => match r with
      | .non => .ok (.ref h.n) h'
      | _ => .st
    | none => .st) := rfl
theorem evT_make {c : Nat} {es : Exs} : evT C (.make c es) σ h = truR (evE C (.make c es) σ h) := toW_asB _
theorem evE_bi {f : BI} {es : Exs} : evE C (.bi f es) σ h = ((evEs C es σ h).bind fun xs h => Mn.bi f xs h) := rfl
theorem evT_bi {f : BI} {es : Exs} : evT C (.bi f es) σ h = truR (evE C (.bi f es) σ h) := toW_asB _
theorem evE_bm {m : BM} {o : Ex} {es : Exs} : evE C (.bm m o es) σ h = ((evE C o σ h).bind fun x h => match kindW x h with
    | some T => if okM T m then (evEs C es σ h).bind fun xs h => if kindW x h = some T then Mn.bm m x xs h else .st else .st
    | none => .st) := rfl
theorem evT_bm {m : BM} {o : Ex} {es : Exs} : evT C (.bm m o es) σ h = truR (evE C (.bm m o es) σ h) := toW_asB _
theorem evE_comp {e : Ex} {t : Tg} {it : It} {c : Ex} : evE C (.comp e t it c) σ h = (withLock .st R.relk (toLock (evL C it σ h)) h fun h => (evI C it σ h).bind fun p h => (compL p.gd (fun x h => match store t x σ h with
      | some σ => (evT C c σ h).bind fun b h => match b with
        | true => (evE C e σ h).bind fun y h => .ok (some y) h
        | false => .ok none h
      | none => .st) p.xs h).bind fun ys h => newL ys h) := rfl
theorem evT_comp {e : Ex} {t : Tg} {it : It} {c : Ex} : evT C (.comp e t it c) σ h = truR (evE C (.comp e t it c) σ h) := toW_asB _
theorem evE_no  : evE C .no σ h = (.st) := rfl
theorem evT_no : evT C .no σ h = truR (evE C .no σ h) := rfl
theorem evEs_nil : evEs C .nil σ h = .ok [] h := rfl
theorem evEs_cons {e : Ex} {es : Exs} : evEs C (.cons e es) σ h = (evE C e σ h).bind fun x h => (evEs C es σ h).bind fun xs h => .ok (x :: xs) h := rfl
theorem evI_val {e : Ex} : evI C (.val e) σ h = ((evE C e σ h).bind fun x h => match plan x h with
    | some p => .ok p h
    | none => .st) := rfl
theorem evI_rng {a : Ex} {b : Ex} : evI C (.rng a b) σ h = ((evE C a σ h).bind fun x h => (evE C b σ h).bind fun y h => match x, y with
    | .int i, .int j => if -(2 ^ 62) ≤ i ∧ i < 2 ^ 62 ∧ -(2 ^ 62) ≤ j ∧ j < 2 ^ 62 then .ok ⟨rngL (j - i).toNat i, []⟩ h else .st
    | _, _ => .st) := rfl
theorem evI_enum {e : Ex} : evI C (.enum e) σ h = ((evE C e σ h).bind fun x h => match planL x h with
    | some p => .ok { p with xs := enumL 0 p.xs } h
    | none => .st) := rfl
theorem evI_zip {a : Ex} {b : Ex} : evI C (.zip a b) σ h = ((evE C a σ h).bind fun x h => (evE C b σ h).bind fun y h => match planL x h, planL y h with
    | some p, some q => .ok ⟨zipL p.xs q.xs, p.gd ++ q.gd⟩ h
    | _, _ => .st) := rfl
theorem evL_val {e : Ex} : evL C (.val e) σ h = evE C e σ h := rfl
end
mutual
def evS (C : Cf) : Sm → List (Option W) → Hm → F
  | .expr e, σ, h => (evE C e σ h).fl σ fun _ h => .nx σ h
  | .set t e, σ, h => (evE C e σ h).fl σ fun w h => match store t w σ h with
    | some σ => .nx σ h
    | none => .st
  | .fld o f e, σ, h => (evE C e σ h).fl σ fun w h => (evE C o σ h).fl σ fun x h => match x with
    | .ref a => (match h.g a with
      | some (.ins c fs) => if h.lo ≤ a ∧ C.bad c f = false ∧ fs.length < 1000 then .nx σ (h.put a (.ins c (putF f w fs))) else .st
      | _ => .st)
    | _ => .st
  | .item o i e, σ, h => (evE C e σ h).fl σ fun w h => (evE C o σ h).fl σ fun x h => (evE C i σ h).fl σ fun k h => (sett x k w h).fl σ fun _ h => .nx σ h
  | .ret e, σ, h => (evE C e σ h).fl σ fun w h => .rt w h
  | .ite c a b, σ, h => (evT C c σ h).fl σ fun t h => match t with
    | true => evSs C a σ h
    | false => evSs C b σ h
  | .whl c b, σ, h => whileL (fun σ h => evT C c σ h) (fun σ h => evSs C b σ h) 1000000 σ h
  | .for t it b, σ, h => withLock .st F.relk (toLock (evL C it σ h)) h fun h => (evI C it σ h).fl σ fun p h => (forL p.gd (fun x σ h => match store t x σ h with
      | some σ => evSs C b σ h
      | none => .st) p.xs σ h)
  | .raise c, σ, h => .ex c [] σ h
  | .pass, σ, h => .nx σ h
  | .tri b, σ, h => (evSs C b σ h).noex
def evSs (C : Cf) : Sms → List (Option W) → Hm → F
  | .nil, σ, h => .nx σ h
  | .cons s r, σ, h => (evS C s σ h).seq fun σ h => evSs C r σ h
end

def startW (ns : Nat) (ws : List W) : List (Option W) := ws.map some ++ List.replicate (ns - ws.length) none
def F.out : F → R W
  | .nx _ h => .ok .non h
  | .rt w h => .ok w h
  | .ex c fs _ h => .ex c fs h
  | .st => .st
def methOf : List (Nat × Nat × Nat) → Nat → Nat → Option Nat
  | [], _, _ => none
  | (c, m, f) :: r, d, k => if c = d ∧ m = k then some f else methOf r d k
def nth {α : Type} : List α → Nat → Option α
  | [], _ => none
  | x :: _, 0 => some x
  | _ :: r, n + 1 => nth r n
mutual
def old (n : Nat) : W → Bool
  | .ref a => Nat.blt a n
  | .tup xs => olds n xs
  | .ktup xs => olds n xs
  | .klst xs => olds n xs
  | _ => true
def olds (n : Nat) : List W → Bool
  | [] => true
  | x :: xs => old n x && olds n xs
end
def graft (h h' : Hm) (w : W) : R W := match old h.n w with
  | true => .ok w h
  | false => (match w with
    | .ref a => (match h'.g a with
      | some (.lst xs) => if olds h.n xs then new (.lst xs) h else .st
      | _ => .st)
    | _ => .st)
def Tx.cf (T : Tx) (call : Nat → List W → Hm → R W) : Cf := ⟨call, methOf T.meths, fun f => (T.fn f).isSome, fun c => T.inits.lookup c, fun c f => !(decide (c ∈ T.cl) && decide (f < T.nf) && T.goods.any fun p => decide (p.1 = c) && decide (p.2 = f))⟩
def run (T : Tx) : Nat → Nat → List W → Hm → R W
  | 0, _, _, _ => .st
  | d + 1, f, ws, h => match T.fn f with
    | some F => if ws.length = F.ps then (match F.pure with
      | true => (match (evSs (T.cf (run T d)) F.body (startW F.ns ws) { h with lo := h.n }).out with
        | .ok w h' => graft h h' w
        | .ex c [] _ => .ex c [] h
        | _ => .st)
      | false => (evSs (T.cf (run T d)) F.body (startW F.ns ws) h).out)
      else .st
    | none => .st
end Mn
end
section
set_option Elab.async false
set_option linter.all false
set_option maxRecDepth 100000
namespace Mn
open PySem PySem.Spec PyProof.Rows L2

structure Env where
  K : PySem.W.Frag
  ca : Nat → Addr
  fn : Nat → Str
  nf : Nat
section
variable (G : Env)
def Fz (H : Hp) (a : Addr) (xs : List V) : Prop := (∃ o, H a = some (.frz o (.lst xs))) ∨
  ∃ (o : Obj) (its : Array Value) (n : Nat), G.K.lookup a = some o ∧ o.cls = .type "list" ∧ o.dict = none ∧ o.data = .seq its n ∧ its.size ≤ sizeLine ∧ Vals xs its.toList
def KTp (a : Addr) (xs : List V) : Prop := ∃ (o : Obj) (its : Array Value) (n : Nat), G.K.lookup a = some o ∧ o.cls = .type "tuple" ∧ o.dict = none ∧ o.data = .seq its n ∧ its.size ≤ sizeLine ∧ Vals xs its.toList
mutual
def RV (ρ : Nat → Addr) (n : Nat) (H : Hp) : W → V → Prop
  | .non, v => v = .non
  | .bl b, v => v = .bl b
  | .int i, v => v = .int i
  | .str s, v => v = .str s
  | .ref a, v => a < n ∧ v = .ref (ρ a)
  | .tup xs, v => ∃ t ys, v = .ref t ∧ H t = some (.tup ys) ∧ RVs ρ n H xs ys
  | .ktup xs, v => ∃ t ys, v = .ref t ∧ KTp G t ys ∧ RVs ρ n H xs ys
  | .klst xs, v => ∃ t ys, v = .ref t ∧ Fz G H t ys ∧ RVs ρ n H xs ys
def RVs (ρ : Nat → Addr) (n : Nat) (H : Hp) : List W → List V → Prop
  | [], ys => ys = []
  | x :: xs, ys => ∃ y r, ys = y :: r ∧ RV ρ n H x y ∧ RVs ρ n H xs r
end
def RKV {κ κ' : Type} (f : κ → κ') (ρ : Nat → Addr) (n : Nat) (H : Hp) : List (κ × W) → List (κ' × V) → Prop
  | [], q => q = []
  | (k, w) :: r, q => ∃ v q', q = (f k, v) :: q' ∧ RV G ρ n H w v ∧ RKV f ρ n H r q'
def HO.mut : HO → Bool
  | .lst _ => true | .dK _ => true | .dT _ => true | .ins _ _ _ => true | .frz _ (.dK _) => true | .frz _ (.dT _) => true | _ => false
def RO (ρ : Nat → Addr) (n : Nat) (H : Hp) (lk : Bool) (A : Addr) : O → Prop
  | .lst xs => ∃ ys, H A = some (.lst ys) ∧ RVs G ρ n H xs ys
  | .dK kvs => ∃ q, (if lk = true then ∃ o, H A = some (.frz o (.dK q)) else H A = some (.dK q)) ∧ RKV G id ρ n H kvs q
  | .dT kvs => ∃ q, (if lk = true then ∃ o, H A = some (.frz o (.dT q)) else H A = some (.dT q)) ∧ RKV G id ρ n H kvs q
  | .ins c fs => ∃ dx q, H A = some (.ins (G.ca c) dx q) ∧ RKV G G.fn ρ n H fs q ∧ (fs.map (·.1)).Nodup ∧ ∀ f ∈ fs.map (·.1), f < G.nf
structure Sim (ρ : Nat → Addr) (h : Hm) (H : Hp) : Prop where
  inj : ∀ i j, i < h.n → j < h.n → ρ i = ρ j → i = j
  obj : ∀ i, i < h.n → ∃ o, h.g i = some o ∧ RO G ρ h.n H (decide (i ∈ h.lk)) (ρ i) o
  lkb : ∀ a, a ∈ h.lk → a < h.n
  lkd : ∀ a, a ∈ h.lk → isD (h.g a) = true
structure Ext (ρ : Nat → Addr) (n : Nat) (H : Hp) (ρ' : Nat → Addr) (n' : Nat) (H' : Hp) : Prop where
  le : n ≤ n'
  ag : ∀ i, i < n → ρ' i = ρ i
  keep : ∀ b o, H b = some o → (∀ i, i < n → ρ i ≠ b) → H' b = some o
  fresh : ∀ i, n ≤ i → i < n' → H (ρ' i) = none
  tup : ∀ b o, H b = some o → HO.mut o = false → H' b = some o
  there : ∀ b o, H b = some o → ∃ o', H' b = some o'
end
section
variable {G : Env} {ρ ρ' ρ1 ρ2 : Nat → Addr} {n n' n1 n2 : Nat} {H H' H1 H2 : Hp}
theorem Ext.refl : Ext ρ n H ρ n H := ⟨Nat.le_refl _, fun _ _ => rfl, fun _ _ e _ => e, fun i h1 h2 => absurd h2 (by omega), fun _ _ e _ => e, fun _ o e => ⟨o, e⟩⟩
theorem Ext.trans (a : Ext ρ n H ρ1 n1 H1) (b : Ext ρ1 n1 H1 ρ2 n2 H2) : Ext ρ n H ρ2 n2 H2 where
  le := Nat.le_trans a.le b.le
  ag := fun i hi => (b.ag i (Nat.lt_of_lt_of_le hi a.le)).trans (a.ag i hi)
  keep := fun c o e hc => b.keep c o (a.keep c o e hc) fun i hi q => by
    by_cases hn : i < n
    · exact hc i hn (by rw [← a.ag i hn]; exact q)
    · have z := a.fresh i (by omega) hi
      rw [q, e] at z
      cases z
  fresh := fun i h1 h2 => by
    by_cases hn : i < n1
    · rw [b.ag i hn]
      exact a.fresh i h1 hn
    · have z := b.fresh i (by omega) h2
      cases q : H (ρ2 i) with
      | none => rfl
      | some o =>
        obtain ⟨o', e⟩ := a.there _ o q
        rw [e] at z
        cases z
  tup := fun c o e m => b.tup c o (a.tup c o e m) m
  there := fun c o e => let ⟨o1, e1⟩ := a.there c o e; b.there c o1 e1

theorem Fz.ext (e : Ext ρ n H ρ' n' H') {a : Addr} {xs : List V} (h : Fz G H a xs) : Fz G H' a xs := by
  rcases h with ⟨o, h⟩ | h
  · exact .inl ⟨o, e.tup _ _ h rfl⟩
  · exact .inr h
theorem sqT_ext (e : Ext ρ n H ρ' n' H') {a : Addr} {xs : List V} (h : SqT G.K H a xs) : SqT G.K H' a xs := by
  rcases h with (h | ⟨o, h⟩) | h
  · exact .inl (.inl (e.tup _ _ h rfl))
  · exact .inl (.inr ⟨o, e.tup _ _ h rfl⟩)
  · exact .inr h
mutual
theorem RV.ext (e : Ext ρ n H ρ' n' H') : ∀ (w : W) (v : V), RV G ρ n H w v → RV G ρ' n' H' w v
  | .non, _, h => h
  | .bl _, _, h => h
  | .int _, _, h => h
  | .str _, _, h => h
  | .ref a, v, h => by
    obtain ⟨h1, h2⟩ : a < n ∧ v = .ref (ρ a) := h
    exact ⟨Nat.lt_of_lt_of_le h1 e.le, by rw [e.ag a h1]; exact h2⟩
  | .tup xs, v, h => by
    obtain ⟨t, ys, h1, h2, h3⟩ : ∃ t ys, v = .ref t ∧ H t = some (.tup ys) ∧ RVs G ρ n H xs ys := h
    exact ⟨t, ys, h1, e.tup _ _ h2 rfl, RVs.ext e xs ys h3⟩
  | .ktup xs, v, h => by
    obtain ⟨t, ys, h1, h2, h3⟩ : ∃ t ys, v = .ref t ∧ KTp G t ys ∧ RVs G ρ n H xs ys := h
    exact ⟨t, ys, h1, h2, RVs.ext e xs ys h3⟩
  | .klst xs, v, h => by
    obtain ⟨t, ys, h1, h2, h3⟩ : ∃ t ys, v = .ref t ∧ Fz G H t ys ∧ RVs G ρ n H xs ys := h
    exact ⟨t, ys, h1, h2.ext e, RVs.ext e xs ys h3⟩
theorem RVs.ext (e : Ext ρ n H ρ' n' H') : ∀ (xs : List W) (ys : List V), RVs G ρ n H xs ys → RVs G ρ' n' H' xs ys
  | [], _, h => h
  | x :: xs, ys, h => by
    obtain ⟨y, r, h1, h2, h3⟩ : ∃ y r, ys = y :: r ∧ RV G ρ n H x y ∧ RVs G ρ n H xs r := h
    exact ⟨y, r, h1, RV.ext e x y h2, RVs.ext e xs r h3⟩
end
theorem RKV.ext {κ κ' : Type} {f : κ → κ'} (e : Ext ρ n H ρ' n' H') : ∀ (xs : List (κ × W)) (ys : List (κ' × V)), RKV G f ρ n H xs ys → RKV G f ρ' n' H' xs ys
  | [], _, h => h
  | (k, w) :: xs, ys, h => by
    obtain ⟨y, r, h1, h2, h3⟩ : ∃ v q', ys = (f k, v) :: q' ∧ RV G ρ n H w v ∧ RKV G f ρ n H xs q' := h
    exact ⟨y, r, h1, RV.ext e w y h2, RKV.ext e xs r h3⟩

structure Kp (ρ : Nat → Addr) (n : Nat) (H : Hp) (ρ' : Nat → Addr) (n' : Nat) (H' : Hp) : Prop where
  le : n ≤ n'
  ag : ∀ i, i < n → ρ' i = ρ i
  tup : ∀ b o, H b = some o → HO.mut o = false → H' b = some o
theorem Ext.kp (e : Ext ρ n H ρ' n' H') : Kp ρ n H ρ' n' H' := ⟨e.le, e.ag, e.tup⟩
theorem Fz.kp (e : Kp ρ n H ρ' n' H') {a : Addr} {xs : List V} (h : Fz G H a xs) : Fz G H' a xs := by
  rcases h with ⟨o, h⟩ | h
  · exact .inl ⟨o, e.tup _ _ h rfl⟩
  · exact .inr h
theorem sqT_kp (e : Kp ρ n H ρ' n' H') {a : Addr} {xs : List V} (h : SqT G.K H a xs) : SqT G.K H' a xs := by
  rcases h with (h | ⟨o, h⟩) | h
  · exact .inl (.inl (e.tup _ _ h rfl))
  · exact .inl (.inr ⟨o, e.tup _ _ h rfl⟩)
  · exact .inr h
mutual
theorem RV.kp (e : Kp ρ n H ρ' n' H') : ∀ (w : W) (v : V), RV G ρ n H w v → RV G ρ' n' H' w v
  | .non, _, h => h
  | .bl _, _, h => h
  | .int _, _, h => h
  | .str _, _, h => h
  | .ref a, v, h => by
    obtain ⟨h1, h2⟩ : a < n ∧ v = .ref (ρ a) := h
    exact ⟨Nat.lt_of_lt_of_le h1 e.le, by rw [e.ag a h1]; exact h2⟩
  | .tup xs, v, h => by
    obtain ⟨t, ys, h1, h2, h3⟩ : ∃ t ys, v = .ref t ∧ H t = some (.tup ys) ∧ RVs G ρ n H xs ys := h
    exact ⟨t, ys, h1, e.tup _ _ h2 rfl, RVs.kp e xs ys h3⟩
  | .ktup xs, v, h => by
    obtain ⟨t, ys, h1, h2, h3⟩ : ∃ t ys, v = .ref t ∧ KTp G t ys ∧ RVs G ρ n H xs ys := h
    exact ⟨t, ys, h1, h2, RVs.kp e xs ys h3⟩
  | .klst xs, v, h => by
    obtain ⟨t, ys, h1, h2, h3⟩ : ∃ t ys, v = .ref t ∧ Fz G H t ys ∧ RVs G ρ n H xs ys := h
    exact ⟨t, ys, h1, h2.kp e, RVs.kp e xs ys h3⟩
theorem RVs.kp (e : Kp ρ n H ρ' n' H') : ∀ (xs : List W) (ys : List V), RVs G ρ n H xs ys → RVs G ρ' n' H' xs ys
  | [], _, h => h
  | x :: xs, ys, h => by
    obtain ⟨y, r, h1, h2, h3⟩ : ∃ y r, ys = y :: r ∧ RV G ρ n H x y ∧ RVs G ρ n H xs r := h
    exact ⟨y, r, h1, RV.kp e x y h2, RVs.kp e xs r h3⟩
end
theorem RKV.kp {κ κ' : Type} {f : κ → κ'} (e : Kp ρ n H ρ' n' H') : ∀ (xs : List (κ × W)) (ys : List (κ' × V)), RKV G f ρ n H xs ys → RKV G f ρ' n' H' xs ys
  | [], _, h => h
  | (k, w) :: xs, ys, h => by
    obtain ⟨y, r, h1, h2, h3⟩ : ∃ v q', ys = (f k, v) :: q' ∧ RV G ρ n H w v ∧ RKV G f ρ n H xs q' := h
    exact ⟨y, r, h1, RV.kp e w y h2, RKV.kp e xs r h3⟩

theorem RVs.length : ∀ {xs : List W} {ys : List V}, RVs G ρ n H xs ys → xs.length = ys.length
  | [], _, h => by cases (show _ = [] from h); rfl
  | x :: xs, ys, h => by
    obtain ⟨y, r, rfl, _, h3⟩ : ∃ y r, ys = y :: r ∧ RV G ρ n H x y ∧ RVs G ρ n H xs r := h
    simp [RVs.length h3]
theorem RVs.get : ∀ {xs : List W} {ys : List V} {i : Nat} {x : W}, RVs G ρ n H xs ys → xs[i]? = some x → ∃ y, ys[i]? = some y ∧ RV G ρ n H x y
  | [], _, _, _, _, e => by simp at e
  | x :: xs, ys, 0, w, h, e => by
    obtain ⟨y, r, rfl, h2, h3⟩ : ∃ y r, ys = y :: r ∧ RV G ρ n H x y ∧ RVs G ρ n H xs r := h
    simp at e
    subst e
    exact ⟨y, rfl, h2⟩
  | x :: xs, ys, i + 1, w, h, e => by
    obtain ⟨y, r, rfl, h2, h3⟩ : ∃ y r, ys = y :: r ∧ RV G ρ n H x y ∧ RVs G ρ n H xs r := h
    obtain ⟨z, q1, q2⟩ := RVs.get (i := i) h3 (by simpa using e)
    exact ⟨z, by simpa using q1, q2⟩
theorem RVs.append : ∀ {xs xs' : List W} {ys ys' : List V}, RVs G ρ n H xs ys → RVs G ρ n H xs' ys' → RVs G ρ n H (xs ++ xs') (ys ++ ys')
  | [], _, _, _, h, h' => by cases (show _ = [] from h); exact h'
  | x :: xs, _, ys, _, h, h' => by
    obtain ⟨y, r, rfl, h2, h3⟩ : ∃ y r, ys = y :: r ∧ RV G ρ n H x y ∧ RVs G ρ n H xs r := h
    exact ⟨y, _, rfl, h2, RVs.append h3 h'⟩
theorem RVs.take : ∀ {xs : List W} {ys : List V} (k : Nat), RVs G ρ n H xs ys → RVs G ρ n H (xs.take k) (ys.take k)
  | _, _, 0, _ => by simp only [List.take_zero]; exact rfl
  | [], _, k + 1, h => by cases (show _ = [] from h); exact rfl
  | x :: xs, ys, k + 1, h => by
    obtain ⟨y, r, rfl, h2, h3⟩ : ∃ y r, ys = y :: r ∧ RV G ρ n H x y ∧ RVs G ρ n H xs r := h
    exact ⟨y, _, rfl, h2, RVs.take k h3⟩
theorem RVs.drop : ∀ {xs : List W} {ys : List V} (k : Nat), RVs G ρ n H xs ys → RVs G ρ n H (xs.drop k) (ys.drop k)
  | _, _, 0, h => by simpa using h
  | [], _, k + 1, h => by cases (show _ = [] from h); exact rfl
  | x :: xs, ys, k + 1, h => by
    obtain ⟨y, r, rfl, h2, h3⟩ : ∃ y r, ys = y :: r ∧ RV G ρ n H x y ∧ RVs G ρ n H xs r := h
    exact RVs.drop k h3
theorem RVs.set {x : W} {y : V} (q : RV G ρ n H x y) : ∀ {xs : List W} {ys : List V} (k : Nat), RVs G ρ n H xs ys → RVs G ρ n H (xs.set k x) (ys.set k y)
  | [], _, k, h => by cases (show _ = [] from h); exact rfl
  | x :: xs, ys, 0, h => by
    obtain ⟨z, r, rfl, h2, h3⟩ : ∃ y r, ys = y :: r ∧ RV G ρ n H x y ∧ RVs G ρ n H xs r := h
    exact ⟨y, r, rfl, q, h3⟩
  | x :: xs, ys, k + 1, h => by
    obtain ⟨z, r, rfl, h2, h3⟩ : ∃ y r, ys = y :: r ∧ RV G ρ n H x y ∧ RVs G ρ n H xs r := h
    exact ⟨z, _, rfl, h2, RVs.set q k h3⟩
theorem RVs.reverse : ∀ {xs : List W} {ys : List V}, RVs G ρ n H xs ys → RVs G ρ n H xs.reverse ys.reverse
  | [], _, h => by cases (show _ = [] from h); exact rfl
  | x :: xs, ys, h => by
    obtain ⟨y, r, rfl, h2, h3⟩ : ∃ y r, ys = y :: r ∧ RV G ρ n H x y ∧ RVs G ρ n H xs r := h
    rw [List.reverse_cons, List.reverse_cons]
    exact RVs.append (RVs.reverse h3) ⟨y, [], rfl, h2, rfl⟩
theorem RVs.rep {xs : List W} {ys : List V} (h : RVs G ρ n H xs ys) : ∀ k : Nat, RVs G ρ n H (List.replicate k xs).flatten (List.replicate k ys).flatten
  | 0 => rfl
  | k + 1 => by
    rw [List.replicate_succ, List.flatten_cons, List.replicate_succ, List.flatten_cons]
    exact RVs.append h (RVs.rep h k)
theorem RVs.ints {xs : List W} {is : List Int} : ∀ {ys : List V}, intsL xs = some is → RVs G ρ n H xs ys → ys = is.map V.int := by
  induction xs generalizing is with
  | nil => intro ys e h; cases e; exact h
  | cons x xs ih =>
    intro ys e h
    obtain ⟨y, r, rfl, h2, h3⟩ : ∃ y r, ys = y :: r ∧ RV G ρ n H x y ∧ RVs G ρ n H xs r := h
    cases x with
    | int i =>
      cases q : intsL xs with
      | none => simp [intsL, q] at e
      | some js =>
        simp [intsL, q] at e
        subst e
        rw [ih q h3, show y = V.int i from h2]
        rfl
    | _ => simp [intsL] at e
theorem RVs.bls {xs : List W} {is : List Bool} : ∀ {ys : List V}, blsL xs = some is → RVs G ρ n H xs ys → ys = is.map V.bl := by
  induction xs generalizing is with
  | nil => intro ys e h; cases e; exact h
  | cons x xs ih =>
    intro ys e h
    obtain ⟨y, r, rfl, h2, h3⟩ : ∃ y r, ys = y :: r ∧ RV G ρ n H x y ∧ RVs G ρ n H xs r := h
    cases x with
    | bl i =>
      cases q : blsL xs with
      | none => simp [blsL, q] at e
      | some js =>
        simp [blsL, q] at e
        subst e
        rw [ih q h3, show y = V.bl i from h2]
        rfl
    | _ => simp [blsL] at e
theorem RVs.strs {xs : List W} {is : List Str} : ∀ {ys : List V}, strsL xs = some is → RVs G ρ n H xs ys → ys = is.map V.str := by
  induction xs generalizing is with
  | nil => intro ys e h; cases e; exact h
  | cons x xs ih =>
    intro ys e h
    obtain ⟨y, r, rfl, h2, h3⟩ : ∃ y r, ys = y :: r ∧ RV G ρ n H x y ∧ RVs G ρ n H xs r := h
    cases x with
    | str i =>
      cases q : strsL xs with
      | none => simp [strsL, q] at e
      | some js =>
        simp [strsL, q] at e
        subst e
        rw [ih q h3, show y = V.str i from h2]
        rfl
    | _ => simp [strsL] at e

theorem RKV.look {κ κ' : Type} [DecidableEq κ] [DecidableEq κ'] {f : κ → κ'} (k : κ) : ∀ {xs : List (κ × W)} {ys : List (κ' × V)}, (∀ j ∈ xs.map (·.1), f j = f k → j = k) → RKV G f ρ n H xs ys →
    match Mn.look k xs with
    | some w => ∃ v, valV ys (f k) = some v ∧ RV G ρ n H w v
    | none => valV ys (f k) = none
  | [], ys, _, h => by cases (show _ = [] from h); exact rfl
  | (j, w) :: xs, ys, hf, h => by
    obtain ⟨v, q', rfl, h2, h3⟩ : ∃ v q', ys = (f j, v) :: q' ∧ RV G ρ n H w v ∧ RKV G f ρ n H xs q' := h
    by_cases e : j = k
    · subst e
      rw [show Mn.look j ((j, w) :: xs) = some w by simp [Mn.look]]
      exact ⟨v, by simp [valV], h2⟩
    · have ne : f j ≠ f k := fun q => e (hf j (by simp) q)
      rw [show Mn.look k ((j, w) :: xs) = Mn.look k xs by simp [Mn.look, e]]
      have ih := RKV.look k (fun i hi q => hf i (by simp only [List.map_cons, List.mem_cons]; exact .inr hi) q) h3
      rw [show valV ((f j, v) :: q') (f k) = valV q' (f k) by simp [valV, ne]]
      exact ih
theorem RKV.keys {κ κ' : Type} {f : κ → κ'} : ∀ {xs : List (κ × W)} {ys : List (κ' × V)}, RKV G f ρ n H xs ys → ys.map (·.1) = xs.map fun p => f p.1
  | [], ys, h => by cases (show _ = [] from h); exact rfl
  | (j, w) :: xs, ys, h => by
    obtain ⟨v, q', rfl, h2, h3⟩ : ∃ v q', ys = (f j, v) :: q' ∧ RV G ρ n H w v ∧ RKV G f ρ n H xs q' := h
    simp [RKV.keys h3]
theorem RKV.length {κ κ' : Type} {f : κ → κ'} {xs : List (κ × W)} {ys : List (κ' × V)} (h : RKV G f ρ n H xs ys) : xs.length = ys.length := by
  have := congrArg List.length h.keys
  simpa using this.symm
end
end Mn
end
section
set_option Elab.async false
set_option linter.all false
set_option maxRecDepth 100000
namespace Mn
open PySem PySem.Spec PyProof.Rows L2
section
variable {G : Env} {ρ ρ' ρ1 ρ2 : Nat → Addr} {n n' n1 n2 : Nat} {H H' H1 H2 : Hp} {h h' h1 h2 : Hm}
theorem RKV.any {κ : Type} [DecidableEq κ] (k : κ) : ∀ {xs : List (κ × W)} {ys : List (κ × V)}, RKV G id ρ n H xs ys → (ys.any fun kv => decide (kv.1 = k)) = xs.any fun kv => decide (kv.1 = k)
  | [], ys, h => by cases (show _ = [] from h); exact rfl
  | (j, w) :: xs, ys, h => by
    obtain ⟨v, q', rfl, h2, h3⟩ : ∃ v q', ys = (id j, v) :: q' ∧ RV G ρ n H w v ∧ RKV G id ρ n H xs q' := h
    simp only [List.any_cons, RKV.any k h3]
    rfl
theorem RKV.repl {κ : Type} [DecidableEq κ] (k : κ) {w : W} {v : V} (r : RV G ρ n H w v) : ∀ {xs : List (κ × W)} {ys : List (κ × V)}, RKV G id ρ n H xs ys →
    RKV G id ρ n H (xs.map fun kv => if kv.1 = k then (kv.1, w) else kv) (ys.map fun kv => if kv.1 = k then (kv.1, v) else kv)
  | [], ys, h => by cases (show _ = [] from h); exact rfl
  | (j, x) :: xs, ys, h => by
    obtain ⟨y, q', rfl, h2, h3⟩ : ∃ v q', ys = (id j, v) :: q' ∧ RV G ρ n H x v ∧ RKV G id ρ n H xs q' := h
    have ih := RKV.repl k r h3
    simp only [List.map_cons]
    by_cases e : j = k
    · rw [if_pos (show ((j, x) : κ × W).1 = k from e), if_pos (show ((id j, y) : κ × V).1 = k from e)]
      exact ⟨v, _, rfl, r, ih⟩
    · rw [if_neg (show ¬ ((j, x) : κ × W).1 = k from e), if_neg (show ¬ ((id j, y) : κ × V).1 = k from e)]
      exact ⟨y, _, rfl, h2, ih⟩
theorem RKV.append {κ κ' : Type} {f : κ → κ'} : ∀ {xs xs' : List (κ × W)} {ys ys' : List (κ' × V)}, RKV G f ρ n H xs ys → RKV G f ρ n H xs' ys' → RKV G f ρ n H (xs ++ xs') (ys ++ ys')
  | [], _, ys, _, h, h' => by cases (show _ = [] from h); exact h'
  | (j, x) :: xs, _, ys, _, h, h' => by
    obtain ⟨y, q', rfl, h2, h3⟩ : ∃ v q', ys = (f j, v) :: q' ∧ RV G ρ n H x v ∧ RKV G f ρ n H xs q' := h
    exact ⟨y, _, rfl, h2, RKV.append h3 h'⟩
theorem RKV.put {κ : Type} [DecidableEq κ] (k : κ) {w : W} {v : V} (r : RV G ρ n H w v) {xs : List (κ × W)} {ys : List (κ × V)} (q : RKV G id ρ n H xs ys) : RKV G id ρ n H (putD k w xs) (putK ys k v) := by
  unfold putD putK
  rw [q.any k]
  split
  · exact q.repl k r
  · exact q.append ⟨v, [], rfl, r, rfl⟩
theorem RKV.drop {κ : Type} [DecidableEq κ] (k : κ) : ∀ {xs : List (κ × W)} {ys : List (κ × V)}, RKV G id ρ n H xs ys → RKV G id ρ n H (dropD k xs) (dropK ys k)
  | [], ys, h => by cases (show _ = [] from h); exact rfl
  | (j, x) :: xs, ys, h => by
    obtain ⟨y, q', rfl, h2, h3⟩ : ∃ v q', ys = (id j, v) :: q' ∧ RV G ρ n H x v ∧ RKV G id ρ n H xs q' := h
    have ih := RKV.drop k h3
    unfold dropD dropK at ih ⊢
    by_cases e : j = k
    · rw [List.filter_cons_of_neg (by simp [e]), List.filter_cons_of_neg (by simp [e])]
      exact ih
    · rw [List.filter_cons_of_pos (by simp [e]), List.filter_cons_of_pos (by simp [e])]
      exact ⟨y, _, rfl, h2, ih⟩
theorem RKV.putF {f : Nat} {w : W} {v : V} (hf : ∀ i j, i < G.nf → j < G.nf → G.fn i = G.fn j → i = j) (hfl : f < G.nf) (r : RV G ρ n H w v) : ∀ {xs : List (Nat × W)} {ys : List (Str × V)}, (∀ i ∈ xs.map (·.1), i < G.nf) → RKV G G.fn ρ n H xs ys →
    RKV G G.fn ρ n H (Mn.putF f w xs) (L2.putF (G.fn f) v ys)
  | [], ys, _, h => by cases (show _ = [] from h); exact ⟨v, [], rfl, r, rfl⟩
  | (j, x) :: xs, ys, hk, h => by
    obtain ⟨y, q', rfl, h2, h3⟩ : ∃ v q', ys = (G.fn j, v) :: q' ∧ RV G ρ n H x v ∧ RKV G G.fn ρ n H xs q' := h
    have hj : j < G.nf := hk j (by simp)
    have ih := RKV.putF hf hfl r (fun i hi => hk i (by simp only [List.map_cons, List.mem_cons]; exact .inr hi)) h3
    show RKV G G.fn ρ n H (if j = f then (j, w) :: xs else (j, x) :: Mn.putF f w xs) (if G.fn j = G.fn f then (G.fn j, v) :: q' else (G.fn j, y) :: L2.putF (G.fn f) v q')
    by_cases e : j = f
    · rw [if_pos e, if_pos (by rw [e])]
      exact ⟨v, q', rfl, r, h3⟩
    · rw [if_neg e, if_neg fun q => e (hf _ _ hj hfl q)]
      exact ⟨y, _, rfl, h2, ih⟩
theorem putF_keys (f : Nat) (w : W) : ∀ xs : List (Nat × W), (∀ i ∈ (Mn.putF f w xs).map (·.1), i = f ∨ i ∈ xs.map (·.1)) ∧ ((xs.map (·.1)).Nodup → ((Mn.putF f w xs).map (·.1)).Nodup)
  | [] => ⟨fun i hi => by simp [Mn.putF] at hi; exact .inl hi, fun _ => by simp [Mn.putF]⟩
  | (j, x) :: xs => by
    obtain ⟨i1, i2⟩ := putF_keys f w xs
    unfold Mn.putF
    by_cases e : j = f
    · rw [if_pos e]
      exact ⟨fun i hi => .inr (by simpa using hi), fun hn => by simpa using hn⟩
    · rw [if_neg e]
      refine ⟨fun i hi => ?_, fun hn => ?_⟩
      · rw [List.map_cons, List.mem_cons] at hi
        rcases hi with hi | hi
        · exact .inr (by simp [hi])
        · rcases i1 i hi with z | z
          · exact .inl z
          · exact .inr (by simp only [List.map_cons, List.mem_cons]; exact .inr z)
      · rw [List.map_cons, List.nodup_cons] at hn ⊢
        refine ⟨fun hm => ?_, i2 hn.2⟩
        rcases i1 j hm with z | z
        · exact e z
        · exact hn.1 z

theorem RO.ext {lk : Bool} {A : Addr} (e : Ext ρ n H ρ' n' H') (hA : H' A = H A) : ∀ {o : O}, RO G ρ n H lk A o → RO G ρ' n' H' lk A o
  | .lst xs, ⟨ys, h1, h2⟩ => ⟨ys, by rw [hA]; exact h1, RVs.ext e xs ys h2⟩
  | .dK kvs, ⟨q, h1, h2⟩ => ⟨q, by
      cases lk with
      | true => rw [if_pos rfl] at h1 ⊢; rw [hA]; exact h1
      | false => rw [if_neg Bool.false_ne_true] at h1 ⊢; rw [hA]; exact h1, RKV.ext e kvs q h2⟩
  | .dT kvs, ⟨q, h1, h2⟩ => ⟨q, by
      cases lk with
      | true => rw [if_pos rfl] at h1 ⊢; rw [hA]; exact h1
      | false => rw [if_neg Bool.false_ne_true] at h1 ⊢; rw [hA]; exact h1, RKV.ext e kvs q h2⟩
  | .ins c fs, ⟨dx, q, h1, h2, h3, h4⟩ => ⟨dx, q, by rw [hA]; exact h1, RKV.ext e fs q h2, h3, h4⟩
theorem RO.kp {lk : Bool} {A : Addr} (e : Kp ρ n H ρ' n' H') (hA : H' A = H A) : ∀ {o : O}, RO G ρ n H lk A o → RO G ρ' n' H' lk A o
  | .lst xs, ⟨ys, h1, h2⟩ => ⟨ys, by rw [hA]; exact h1, RVs.kp e xs ys h2⟩
  | .dK kvs, ⟨q, h1, h2⟩ => ⟨q, by
      cases lk with
      | true => rw [if_pos rfl] at h1 ⊢; rw [hA]; exact h1
      | false => rw [if_neg Bool.false_ne_true] at h1 ⊢; rw [hA]; exact h1, RKV.kp e kvs q h2⟩
  | .dT kvs, ⟨q, h1, h2⟩ => ⟨q, by
      cases lk with
      | true => rw [if_pos rfl] at h1 ⊢; rw [hA]; exact h1
      | false => rw [if_neg Bool.false_ne_true] at h1 ⊢; rw [hA]; exact h1, RKV.kp e kvs q h2⟩
  | .ins c fs, ⟨dx, q, h1, h2, h3, h4⟩ => ⟨dx, q, by rw [hA]; exact h1, RKV.kp e fs q h2, h3, h4⟩
theorem RO.there {lk : Bool} {A : Addr} : ∀ {o : O}, RO G ρ n H lk A o → ∃ u, H A = some u ∧ HO.mut u = true
  | .lst xs, ⟨ys, h1, h2⟩ => ⟨_, h1, rfl⟩
  | .dK kvs, ⟨q, h1, h2⟩ => by
    cases lk with
    | true => rw [if_pos rfl] at h1; obtain ⟨o, h1⟩ := h1; exact ⟨_, h1, rfl⟩
    | false => rw [if_neg Bool.false_ne_true] at h1; exact ⟨_, h1, rfl⟩
  | .dT kvs, ⟨q, h1, h2⟩ => by
    cases lk with
    | true => rw [if_pos rfl] at h1; obtain ⟨o, h1⟩ := h1; exact ⟨_, h1, rfl⟩
    | false => rw [if_neg Bool.false_ne_true] at h1; exact ⟨_, h1, rfl⟩
  | .ins c fs, ⟨dx, q, h1, _⟩ => ⟨_, h1, rfl⟩
theorem Sim.has (S : Sim G ρ h H) {i : Nat} (hi : i < h.n) : ∃ u, H (ρ i) = some u ∧ HO.mut u = true := let ⟨_, _, r⟩ := S.obj i hi; r.there
theorem Ext.temp {p : Addr} {u : HO} (hp : H p = none) : Ext ρ n H ρ n (upd H p u) where
  le := Nat.le_refl _
  ag := fun _ _ => rfl
  keep := fun b o e _ => by rw [upd_ne (ne_of_none e hp)]; exact e
  fresh := fun i h1 h2 => absurd h2 (by omega)
  tup := fun b o e _ => by rw [upd_ne (ne_of_none e hp)]; exact e
  there := fun b o e => ⟨o, by rw [upd_ne (ne_of_none e hp)]; exact e⟩
theorem Sim.temp {p : Addr} {u : HO} (S : Sim G ρ h H) (hp : H p = none) : Sim G ρ h (upd H p u) where
  inj := S.inj
  obj := fun i hi => by
    obtain ⟨o, e, r⟩ := S.obj i hi
    obtain ⟨x, hx, _⟩ := r.there
    exact ⟨o, e, r.ext (Ext.temp hp) (upd_ne (ne_of_none hx hp))⟩
  lkb := S.lkb
  lkd := S.lkd
def ext1 (ρ : Nat → Addr) (n : Nat) (p : Addr) : Nat → Addr := fun i => if i = n then p else ρ i
theorem ext1_same {p : Addr} : ext1 ρ n p n = p := if_pos rfl
theorem ext1_lt {p : Addr} {i : Nat} (hi : i < n) : ext1 ρ n p i = ρ i := if_neg (by omega)
theorem Ext.new {p : Addr} {u : HO} (hp : H p = none) : Ext ρ n H (ext1 ρ n p) (n + 1) (upd H p u) where
  le := Nat.le_succ _
  ag := fun i hi => ext1_lt hi
  keep := fun b o e _ => by rw [upd_ne (ne_of_none e hp)]; exact e
  fresh := fun i h1 h2 => by
    have : i = n := by omega
    subst this
    rw [ext1_same]
    exact hp
  tup := fun b o e _ => by rw [upd_ne (ne_of_none e hp)]; exact e
  there := fun b o e => ⟨o, by rw [upd_ne (ne_of_none e hp)]; exact e⟩
theorem Sim.new {p : Addr} {u : HO} {o : O} (S : Sim G ρ h H) (hp : H p = none) (r : RO G (ext1 ρ h.n p) (h.n + 1) (upd H p u) false p o) : Sim G (ext1 ρ h.n p) (h.push o) (upd H p u) where
  inj := fun i j hi hj e => by
    have hi' : i < h.n + 1 := hi
    have hj' : j < h.n + 1 := hj
    by_cases qi : i = h.n <;> by_cases qj : j = h.n
    · rw [qi, qj]
    · have l : j < h.n := by omega
      obtain ⟨x, hx, _⟩ := S.has l
      rw [qi, ext1_same, ext1_lt l] at e
      rw [← e, hp] at hx
      cases hx
    · have l : i < h.n := by omega
      obtain ⟨x, hx, _⟩ := S.has l
      rw [qj, ext1_same, ext1_lt l] at e
      rw [e, hp] at hx
      cases hx
    · have li : i < h.n := by omega
      have lj : j < h.n := by omega
      rw [ext1_lt li, ext1_lt lj] at e
      exact S.inj i j li lj e
  obj := fun i hi => by
    have hi' : i < h.n + 1 := hi
    by_cases q : i = h.n
    · subst q
      refine ⟨o, if_pos rfl, ?_⟩
      rw [ext1_same, show decide (h.n ∈ (h.push o).lk) = false from decide_eq_false fun z => absurd (S.lkb _ z) (Nat.lt_irrefl _)]
      exact r
    · have l : i < h.n := by omega
      obtain ⟨o', e, r'⟩ := S.obj i l
      obtain ⟨x, hx, _⟩ := r'.there
      refine ⟨o', (if_neg q).trans e, ?_⟩
      rw [ext1_lt l]
      exact r'.ext (Ext.new hp) (upd_ne (ne_of_none hx hp))
  lkb := fun a ha => Nat.lt_succ_of_lt (S.lkb a ha)
  lkd := fun a ha => by
    show isD (if a = h.n then some o else h.g a) = true
    rw [if_neg (Nat.ne_of_lt (S.lkb a ha))]
    exact S.lkd a ha
theorem Ext.write {i : Nat} {u : HO} (S : Sim G ρ h H) (hi : i < h.n) : Ext ρ h.n H ρ h.n (upd H (ρ i) u) where
  le := Nat.le_refl _
  ag := fun _ _ => rfl
  keep := fun b o e hb => by rw [upd_ne fun q => hb i hi q.symm]; exact e
  fresh := fun i h1 h2 => absurd h2 (by omega)
  tup := fun b o e m => by
    obtain ⟨x, hx, hm⟩ := S.has hi
    rw [upd_ne fun q => by rw [q, hx] at e; cases e; rw [m] at hm; cases hm]
    exact e
  there := fun b o e => by
    by_cases q : b = ρ i
    · exact ⟨u, by rw [q, upd_same]⟩
    · exact ⟨o, by rw [upd_ne q]; exact e⟩
theorem Sim.write {i : Nat} {u : HO} {o : O} (S : Sim G ρ h H) (hi : i < h.n) (hl : i ∉ h.lk) (r : RO G ρ h.n (upd H (ρ i) u) (decide (i ∈ h.lk)) (ρ i) o) : Sim G ρ (h.put i o) (upd H (ρ i) u) where
  inj := S.inj
  obj := fun j hj => by
    by_cases q : j = i
    · subst q
      exact ⟨o, if_pos rfl, r⟩
    · obtain ⟨o', e, r'⟩ := S.obj j hj
      refine ⟨o', (if_neg q).trans e, r'.ext (Ext.write S hi) (upd_ne fun z => q (S.inj _ _ hj hi z))⟩
  lkb := S.lkb
  lkd := fun a ha => by
    show isD (if a = i then some o else h.g a) = true
    rw [if_neg (fun z => hl (by rw [← z]; exact ha))]
    exact S.lkd a ha

def RX (G : Env) (ρ : Nat → Addr) (n : Nat) (H : Hp) (fs : List (Nat × W)) (d : Option Addr) : Prop := match fs with
  | [] => d = none
  | fs => ∃ p q, d = some p ∧ H p = some (.xd q) ∧ RKV G G.fn ρ n H fs q
structure Nx (ρ : Nat → Addr) (h : Hm) (H : Hp) (ρ' : Nat → Addr) (h' : Hm) (H' : Hp) : Prop where
  ext : Ext ρ h.n H ρ' h'.n H'
  lk : h'.lk = h.lk
  lo : h'.lo = h.lo
  low : ∀ i, i < h.lo → i < h.n → H' (ρ i) = H (ρ i)
  fz : ∀ i, i ∈ h.lk → i < h.n → H' (ρ i) = H (ρ i)
theorem Nx.refl : Nx ρ h H ρ h H := ⟨Ext.refl, rfl, rfl, fun _ _ _ => rfl, fun _ _ _ => rfl⟩
theorem Nx.trans (a : Nx ρ h H ρ1 h1 H1) (b : Nx ρ1 h1 H1 ρ2 h2 H2) : Nx ρ h H ρ2 h2 H2 :=
  ⟨a.ext.trans b.ext, b.lk.trans a.lk, b.lo.trans a.lo, fun i hi hn => by
    rw [← a.low i hi hn, ← a.ext.ag i hn]
    exact b.low i (by rw [a.lo]; exact hi) (Nat.lt_of_lt_of_le hn a.ext.le), fun i hi hn => by
    rw [← a.fz i hi hn, ← a.ext.ag i hn]
    exact b.fz i (by rw [a.lk]; exact hi) (Nat.lt_of_lt_of_le hn a.ext.le)⟩
theorem Nx.temp {p : Addr} {u : HO} (S : Sim G ρ h H) (hp : H p = none) : Nx ρ h H ρ h (upd H p u) :=
  have z : ∀ i, i < h.n → upd H p u (ρ i) = H (ρ i) := fun i hn => by
    obtain ⟨x, hx, _⟩ := S.has hn
    exact upd_ne (ne_of_none hx hp)
  ⟨Ext.temp hp, rfl, rfl, fun i _ hn => z i hn, fun i _ hn => z i hn⟩
theorem Nx.new {p : Addr} {u : HO} {o : O} (S : Sim G ρ h H) (hp : H p = none) : Nx ρ h H (ext1 ρ h.n p) (h.push o) (upd H p u) :=
  have z : ∀ i, i < h.n → upd H p u (ρ i) = H (ρ i) := fun i hn => by
    obtain ⟨x, hx, _⟩ := S.has hn
    exact upd_ne (ne_of_none hx hp)
  ⟨Ext.new hp, rfl, rfl, fun i _ hn => z i hn, fun i _ hn => z i hn⟩
theorem Nx.write {i : Nat} {u : HO} {o : O} (S : Sim G ρ h H) (hi : i < h.n) (hlo : h.lo ≤ i) (hl : i ∉ h.lk) : Nx ρ h H ρ (h.put i o) (upd H (ρ i) u) :=
  ⟨Ext.write S hi, rfl, rfl, fun j hj hn => upd_ne fun z => absurd (S.inj _ _ hn hi z) (by omega), fun j hj hn => upd_ne fun z => hl (by rw [← S.inj _ _ hn hi z]; exact hj)⟩
def Ans {α : Type} (G : Env) (ρ : Nat → Addr) (h : Hm) (H : Hp) (r : R α) (P : (Nat → Addr) → Hm → Hp → α → Prop) (E : XK) : Prop := match r with
  | .st => False
  | .ok a h' => ∀ ρ' H', Nx ρ h H ρ' h' H' → Sim G ρ' h' H' → P ρ' h' H' a
  | .ex c fs h' => ∀ ρ' H' d, Nx ρ h H ρ' h' H' → Sim G ρ' h' H' → RX G ρ' h'.n H' fs d → E (.ref (G.ca c)) d H'
theorem Ans.bind {α β : Type} {r : R α} {f : α → Hm → R β} {P : (Nat → Addr) → Hm → Hp → β → Prop} {E : XK} (a : Ans G ρ h H (r.bind f) P E) :
    Ans G ρ h H r (fun ρ1 h1 H1 x => Nx ρ h H ρ1 h1 H1 ∧ Sim G ρ1 h1 H1 ∧ Ans G ρ1 h1 H1 (f x h1) P E) E := by
  cases r with
  | st => exact a
  | ok x h1 =>
    intro ρ1 H1 e1 S1
    refine ⟨e1, S1, ?_⟩
    have a' : Ans G ρ h H (f x h1) P E := a
    revert a'
    cases f x h1 with
    | st => exact id
    | ok b h2 =>
      intro a' ρ2 H2 e2 S2
      exact a' ρ2 H2 (e1.trans e2) S2
    | ex c fs h2 =>
      intro a' ρ2 H2 d e2 S2 x2
      exact a' ρ2 H2 d (e1.trans e2) S2 x2
  | ex c fs h1 => exact a
theorem Ans.imp {α : Type} {r : R α} {P P' : (Nat → Addr) → Hm → Hp → α → Prop} {E : XK} (a : Ans G ρ h H r P E) (k : ∀ ρ1 h1 H1 x, P ρ1 h1 H1 x → P' ρ1 h1 H1 x) : Ans G ρ h H r P' E := by
  cases r with
  | st => exact a
  | ok x h1 => exact fun ρ1 H1 e1 S1 => k _ _ _ _ (a ρ1 H1 e1 S1)
  | ex c fs h1 => exact a
theorem Ans.ne {α : Type} {r : R α} {P : (Nat → Addr) → Hm → Hp → α → Prop} {E : XK} (a : Ans G ρ h H r P E) : r ≠ .st := fun q => by
  rw [q] at a
  exact a
end

section
variable {X : Cx}
def wE (X : Cx) (e : Expr) : TE := fun σ H Q => ∀ pins s, Inv X pins σ H s → wpAny (model X.prog X.w) X.A (eval e X.env) (EP X pins σ Q) X.xe s
theorem peW {e : Expr} : PE X e (wE X e) := ⟨fun pins s _ _ _ I h => h pins s I⟩
theorem PE.to {e : Expr} {t : TE} (p : PE X e t) {σ : L2.St} {H : Hp} {Q : VK} (h : t σ H Q) : wE X e σ H Q := fun pins s I => p.run pins s σ H Q I h
def wT (X : Cx) (e : Expr) : TT := fun σ H Q => ∀ pins s, Inv X pins σ H s → wpAny (model X.prog X.w) X.A (isTrue e X.env (eval e X.env)) (TP X pins σ Q) X.xe s
theorem ptW {e : Expr} : PT X e (wT X e) := ⟨fun pins s _ _ _ I h => h pins s I⟩
theorem PT.to {e : Expr} {t : TT} (p : PT X e t) {σ : L2.St} {H : Hp} {Q : Bool → Hp → Prop} (h : t σ H Q) : wT X e σ H Q := fun pins s I => p.run pins s σ H Q I h
def wTW (X : Cx) (e : Expr) : TT := fun σ H Q => ∀ whole pins s, Inv X pins σ H s → wpAny (model X.prog X.w) X.A (isTrue e X.env whole) (TP X pins σ Q) X.xe s
theorem pwW {e : Expr} : PW X e (wTW X e) := ⟨fun wh pins s _ _ _ I h => h wh pins s I⟩
theorem PW.to {e : Expr} {t : TT} (p : PW X e t) {σ : L2.St} {H : Hp} {Q : Bool → Hp → Prop} (h : t σ H Q) : wTW X e σ H Q := fun wh pins s I => p.run wh pins s σ H Q I h
def wA (X : Cx) (es : List Expr) : TA := fun σ H Q => ∀ pos pins s, Inv X pins σ H s → wpAny (model X.prog X.w) X.A (spliced (backTo pos (starEach es X.env))) (AP X pins σ Q) X.xe s
theorem paW {es : List Expr} : PA X es (wA X es) := ⟨fun pos pins s _ _ _ I h => h pos pins s I⟩
theorem PA.to {es : List Expr} {t : TA} (p : PA X es t) {σ : L2.St} {H : Hp} {Q : List V → Hp → Prop} (h : t σ H Q) : wA X es σ H Q := fun pos pins s I => p.run pos pins s σ H Q I h
end
end Mn
end
section
set_option Elab.async false
set_option linter.all false
set_option maxRecDepth 100000
set_option maxHeartbeats 1000000
namespace Mn
open PySem PySem.Spec PyProof.Rows L2
theorem line_eq : line = sizeLine := by rw [sizeLine_eq]; rfl
section
variable {X : Cx}
def wO (X : Cx) (f : Value → Value → Sem Value) : R2 := fun x y H Q => ∀ pins s σ v u, Inv X pins σ H s → RelV x v → RelV y u → wpAny (model X.prog X.w) X.A (f v u) (EP X pins σ Q) X.xe s
theorem orW {f : Value → Value → Sem Value} : OpR X f (wO X f) := fun pins s σ H x y v u Q I rx ry h => h pins s σ v u I rx ry
theorem OpR.to {f : Value → Value → Sem Value} {r : R2} (o : OpR X f r) {x y : V} {H : Hp} {Q : VK} (h : r x y H Q) : wO X f x y H Q := fun pins s σ v u I rx ry => o pins s σ H x y v u Q I rx ry h
def wTru (X : Cx) : V → Hp → (Bool → Hp → Prop) → Prop := fun x H Q => ∀ pins s σ v, Inv X pins σ H s → RelV x v → wpAny (model X.prog X.w) X.A (truthy v) (TP X pins σ Q) X.xe s
theorem trW : TruR X (wTru X) := fun pins s σ H x v Q I rx h => h pins s σ v I rx
theorem TruR.to {r : V → Hp → (Bool → Hp → Prop) → Prop} (o : TruR X r) {x : V} {H : Hp} {Q : Bool → Hp → Prop} (h : r x H Q) : wTru X x H Q := fun pins s σ v I rx => o pins s σ H x v Q I rx h
def wIx (X : Cx) : R2 := fun x y H Q => ∀ pins s σ v u, Inv X pins σ H s → RelV x v → RelV y u → wpAny (model X.prog X.w) X.A (getItem v u) (EP X pins σ Q) X.xe s
def wC (X : Cx) (f : Value) : List V → Hp → VK → Prop := fun xs H Q => ∀ pins s σ us, Inv X pins σ H s → Vals xs us → wpAny (model X.prog X.w) X.A (call f us) (EP X pins σ Q) X.xe s
theorem crW {f : Value} : CallR X f (wC X f) := fun pins s σ H xs us Q I r h => h pins s σ us I r
theorem CallR.to {f : Value} {r : List V → Hp → VK → Prop} (o : CallR X f r) {xs : List V} {H : Hp} {Q : VK} (h : r xs H Q) : wC X f xs H Q := fun pins s σ us I rx => o pins s σ H xs us Q I rx h
end

variable {G : Env} {ρ ρ' : Nat → Addr} {n n' : Nat} {H H' : Hp} {h h' : Hm}
theorem RV.int {i : Int} {v : V} (r : RV G ρ n H (.int i) v) : v = .int i := r
theorem RV.bl {i : Bool} {v : V} (r : RV G ρ n H (.bl i) v) : v = .bl i := r
theorem RV.str {i : Str} {v : V} (r : RV G ρ n H (.str i) v) : v = .str i := r
theorem RV.non {v : V} (r : RV G ρ n H .non v) : v = .non := r
theorem RV.ref {a : Nat} {v : V} (r : RV G ρ n H (.ref a) v) : a < n ∧ v = .ref (ρ a) := r
theorem RV.tup {xs : List W} {v : V} (r : RV G ρ n H (.tup xs) v) : ∃ t ys, v = .ref t ∧ H t = some (.tup ys) ∧ RVs G ρ n H xs ys := r
theorem KTp.sq {a : Addr} {xs : List V} (h : KTp G a xs) : SqT G.K H a xs := let ⟨o, its, n, h1, h2, _, h3, h4, h5⟩ := h; .inr ⟨o, its, n, h1, h2, h3, h4, h5⟩
theorem RV.ktupK {xs : List W} {v : V} (r : RV G ρ n H (.ktup xs) v) : ∃ t ys, v = .ref t ∧ KTp G t ys ∧ RVs G ρ n H xs ys := r
theorem RV.ktup {xs : List W} {v : V} (r : RV G ρ n H (.ktup xs) v) : ∃ t ys, v = .ref t ∧ SqT G.K H t ys ∧ RVs G ρ n H xs ys := let ⟨t, ys, h1, h2, h3⟩ := r.ktupK; ⟨t, ys, h1, h2.sq, h3⟩
theorem RV.klst {xs : List W} {v : V} (r : RV G ρ n H (.klst xs) v) : ∃ t ys, v = .ref t ∧ Fz G H t ys ∧ RVs G ρ n H xs ys := r
theorem Fz.sq {a : Addr} {xs : List V} (h : Fz G H a xs) : SqL G.K H a xs := by
  rcases h with ⟨o, h⟩ | h
  · exact .inl (.inr ⟨o, h⟩)
  · exact .inr h
theorem Sim.at_ (S : Sim G ρ h H) {a : Nat} {o : O} (ha : a < h.n) (e : h.g a = some o) : RO G ρ h.n H (decide (a ∈ h.lk)) (ρ a) o := by
  obtain ⟨o', e', r⟩ := S.obj a ha
  rw [e] at e'
  cases e'
  exact r
theorem Sim.lst (S : Sim G ρ h H) {a : Nat} {xs : List W} (ha : a < h.n) (e : h.g a = some (.lst xs)) : ∃ ys, H (ρ a) = some (.lst ys) ∧ RVs G ρ h.n H xs ys := S.at_ ha e
theorem Sim.dK (S : Sim G ρ h H) {a : Nat} {xs : List (Key × W)} (ha : a < h.n) (e : h.g a = some (.dK xs)) : ∃ q, Rd H (ρ a) (.dK q) ∧ RKV G id ρ h.n H xs q ∧ (a ∉ h.lk → H (ρ a) = some (.dK q)) := by
  obtain ⟨q, h1, h2⟩ : ∃ q, (if decide (a ∈ h.lk) = true then ∃ o, H (ρ a) = some (.frz o (.dK q)) else H (ρ a) = some (.dK q)) ∧ RKV G id ρ h.n H xs q := S.at_ ha e
  refine ⟨q, ?_, h2, fun hn => ?_⟩
  · split at h1
    · exact .inr h1
    · exact .inl h1
  · rw [if_neg (by simp [hn])] at h1
    exact h1
theorem Sim.dT (S : Sim G ρ h H) {a : Nat} {xs : List (List Key × W)} (ha : a < h.n) (e : h.g a = some (.dT xs)) : ∃ q, Rd H (ρ a) (.dT q) ∧ RKV G id ρ h.n H xs q ∧ (a ∉ h.lk → H (ρ a) = some (.dT q)) := by
  obtain ⟨q, h1, h2⟩ : ∃ q, (if decide (a ∈ h.lk) = true then ∃ o, H (ρ a) = some (.frz o (.dT q)) else H (ρ a) = some (.dT q)) ∧ RKV G id ρ h.n H xs q := S.at_ ha e
  refine ⟨q, ?_, h2, fun hn => ?_⟩
  · split at h1
    · exact .inr h1
    · exact .inl h1
  · rw [if_neg (by simp [hn])] at h1
    exact h1
theorem Sim.ins (S : Sim G ρ h H) {a c : Nat} {fs : List (Nat × W)} (ha : a < h.n) (e : h.g a = some (.ins c fs)) : ∃ dx q, H (ρ a) = some (.ins (G.ca c) dx q) ∧ RKV G G.fn ρ h.n H fs q ∧ (fs.map (·.1)).Nodup ∧ ∀ f ∈ fs.map (·.1), f < G.nf := S.at_ ha e
theorem rdL_ok (S : Sim G ρ h H) {w : W} {v : V} {xs : List W} (r : RV G ρ h.n H w v) (e : rdL w h = some xs) : ∃ t ys, v = .ref t ∧ SqL G.K H t ys ∧ RVs G ρ h.n H xs ys := by
  cases w with
  | klst zs =>
    cases (show some zs = some xs from e)
    obtain ⟨t, ys, h1, h2, h3⟩ := r.klst
    exact ⟨t, ys, h1, h2.sq, h3⟩
  | ref a =>
    obtain ⟨ha, hv⟩ := r.ref
    cases q : h.g a with
    | none => simp [rdL, q] at e
    | some o =>
      cases o with
      | lst zs =>
        simp [rdL, q] at e
        subst e
        obtain ⟨ys, h1, h2⟩ := S.lst ha q
        exact ⟨_, ys, hv, SqL.of h1, h2⟩
      | _ => simp [rdL, q] at e
  | _ => simp [rdL] at e
theorem seqW_ok (S : Sim G ρ h H) {w : W} {v : V} {xs : List W} (r : RV G ρ h.n H w v) (e : seqW w h = some xs) : ∃ t ys, v = .ref t ∧ (SqL G.K H t ys ∨ SqT G.K H t ys) ∧ RVs G ρ h.n H xs ys := by
  cases w with
  | tup zs =>
    cases (show some zs = some xs from e)
    obtain ⟨t, ys, h1, h2, h3⟩ := r.tup
    exact ⟨t, ys, h1, .inr (SqT.of h2), h3⟩
  | ktup zs =>
    cases (show some zs = some xs from e)
    obtain ⟨t, ys, h1, h2, h3⟩ := r.ktup
    exact ⟨t, ys, h1, .inr h2, h3⟩
  | klst zs =>
    obtain ⟨t, ys, h1, h2, h3⟩ := rdL_ok S r (show rdL (.klst zs) h = some xs from e)
    exact ⟨t, ys, h1, .inl h2, h3⟩
  | ref a =>
    obtain ⟨t, ys, h1, h2, h3⟩ := rdL_ok S r (show rdL (.ref a) h = some xs from e)
    exact ⟨t, ys, h1, .inl h2, h3⟩
  | _ => simp [seqW, rdL] at e
mutual
theorem dat_ok (S : Sim G ρ h H) : ∀ (m : Nat) (w : W) (v : V) (d : PyData), RV G ρ h.n H w v → dat m h w = some d → Dp G.K H v d
  | 0, _, _, _, _, e => by simp [dat] at e
  | m + 1, .non, v, d, r, e => by
    have e' : some PyData.none = some d := e
    cases e'
    rw [show v = .non from r]
    exact .non
  | m + 1, .bl b, v, d, r, e => by
    have e' : some (PyData.bool b) = some d := e
    cases e'
    rw [show v = .bl b from r]
    exact .bl b
  | m + 1, .int b, v, d, r, e => by
    have e' : some (PyData.int b) = some d := e
    cases e'
    rw [show v = .int b from r]
    exact .int b
  | m + 1, .str b, v, d, r, e => by
    have e' : some (PyData.str b) = some d := e
    cases e'
    rw [show v = .str b from r]
    exact .str b
  | m + 1, .tup xs, v, d, r, e => by
    have e' : (dats m h xs).map PyData.tuple = some d := e
    obtain ⟨ds, h1, rfl⟩ := Option.map_eq_some_iff.mp e'
    obtain ⟨t, ys, rfl, h2, h3⟩ := r.tup
    exact .tup (SqT.of h2) (dats_ok S m xs ys ds h3 h1)
  | m + 1, .ktup xs, v, d, r, e => by
    have e' : (dats m h xs).map PyData.tuple = some d := e
    obtain ⟨ds, h1, rfl⟩ := Option.map_eq_some_iff.mp e'
    obtain ⟨t, ys, rfl, h2, h3⟩ := r.ktup
    exact .tup h2 (dats_ok S m xs ys ds h3 h1)
  | m + 1, .klst xs, v, d, r, e => by
    have e' : (dats m h xs).map PyData.list = some d := e
    obtain ⟨ds, h1, rfl⟩ := Option.map_eq_some_iff.mp e'
    obtain ⟨t, ys, rfl, h2, h3⟩ := r.klst
    exact .lst h2.sq (dats_ok S m xs ys ds h3 h1)
  | m + 1, .ref a, v, d, r, e => by
    obtain ⟨ha, rfl⟩ := r.ref
    cases q : h.g a with
    | none => simp [dat, q] at e
    | some o =>
      cases o with
      | lst xs =>
        simp only [dat, q] at e
        obtain ⟨ds, h1, rfl⟩ := Option.map_eq_some_iff.mp e
        obtain ⟨ys, h2, h3⟩ := S.lst ha q
        exact .lst (SqL.of h2) (dats_ok S m xs ys ds h3 h1)
      | _ => simp [dat, q] at e
theorem dats_ok (S : Sim G ρ h H) : ∀ (m : Nat) (xs : List W) (ys : List V) (ds : List PyData), RVs G ρ h.n H xs ys → dats m h xs = some ds → DpAll G.K H ys ds
  | 0, _, _, _, _, e => by simp [dats] at e
  | m + 1, [], ys, ds, r, e => by
    have e' : some ([] : List PyData) = some ds := e
    cases e'
    rw [show ys = [] from r]
    exact .nil
  | m + 1, x :: xs, ys, ds, r, e => by
    obtain ⟨y, q, rfl, h2, h3⟩ : ∃ y q, ys = y :: q ∧ RV G ρ h.n H x y ∧ RVs G ρ h.n H xs q := r
    have e' : (match dat m h x, dats m h xs with
      | some d, some ds => some (d :: ds)
      | _, _ => none) = some ds := e
    cases q1 : dat m h x with
    | none => simp [q1] at e'
    | some d =>
      cases q2 : dats m h xs with
      | none => simp [q1, q2] at e'
      | some es =>
        simp [q1, q2] at e'
        subst e'
        exact .cons (dat_ok S m x y d h2 q1) (dats_ok S m xs q es h3 q2)
end
section
variable {X : Cx}
theorem eq_ok (hK : X.K = G.K) (hu : X.A.units + 64 < cLine) (S : Sim G ρ h H) {x y : W} {v u : V} {b : Bool} {Q : VK} (r1 : RV G ρ h.n H x v) (r2 : RV G ρ h.n H y u) (e : eqW h x y = some b) (q : Q (.bl b) H) : wO X (compareOp .Eq) v u H Q := by
  have deep : ∀ d d', dat 10000 h x = some d → dat 10000 h y = some d' → (if SeqAt.shaped d && SeqAt.shaped d' then some (PyData.eqv d d') else none) = some b → wO X (compareOp .Eq) v u H Q := fun d d' h1 h2 h3 => by
    split at h3
    · rename_i hs
      rw [Bool.and_eq_true] at hs
      cases h3
      exact OpR.to (op_eqD hu) ⟨d, d', by rw [hK]; exact dat_ok S _ x v d r1 h1, by rw [hK]; exact dat_ok S _ y u d' r2 h2, hs.1, hs.2, q⟩
    · cases h3
  have deep' : (match dat 10000 h x, dat 10000 h y with
      | some d, some e => if SeqAt.shaped d && SeqAt.shaped e then some (PyData.eqv d e) else none
      | _, _ => none) = some b → wO X (compareOp .Eq) v u H Q := fun h3 => by
    cases q1 : dat 10000 h x with
    | none => simp [q1] at h3
    | some d =>
      cases q2 : dat 10000 h y with
      | none => simp [q1, q2] at h3
      | some d' =>
        simp only [q1, q2] at h3
        exact deep d d' q1 q2 h3
  have sc : ∀ {b' : Bool}, scal v u = true → decide (v = u) = b' → b' = b → wO X (compareOp .Eq) v u H Q := fun hs hd hb => OpR.to op_eq ⟨hs, by rw [hd, hb]; exact q⟩
  unfold eqW at e
  split at e <;> first
    | exact deep' e
    | (cases e
       first
       | (rw [show v = _ from r1, show u = _ from r2] at sc ⊢
          refine sc rfl ?_ rfl
          first
          | rfl
          | simp))
theorem ne_ok (hK : X.K = G.K) (hu : X.A.units + 64 < cLine) (S : Sim G ρ h H) {x y : W} {v u : V} {b : Bool} {Q : VK} (r1 : RV G ρ h.n H x v) (r2 : RV G ρ h.n H y u) (e : eqW h x y = some b) (q : Q (.bl (!b)) H) : wO X (compareOp .NotEq) v u H Q := by
  have deep : ∀ d d', dat 10000 h x = some d → dat 10000 h y = some d' → (if SeqAt.shaped d && SeqAt.shaped d' then some (PyData.eqv d d') else none) = some b → wO X (compareOp .NotEq) v u H Q := fun d d' h1 h2 h3 => by
    split at h3
    · rename_i hs
      rw [Bool.and_eq_true] at hs
      cases h3
      exact OpR.to (op_neD hu) ⟨d, d', by rw [hK]; exact dat_ok S _ x v d r1 h1, by rw [hK]; exact dat_ok S _ y u d' r2 h2, hs.1, hs.2, q⟩
    · cases h3
  have deep' : (match dat 10000 h x, dat 10000 h y with
      | some d, some e => if SeqAt.shaped d && SeqAt.shaped e then some (PyData.eqv d e) else none
      | _, _ => none) = some b → wO X (compareOp .NotEq) v u H Q := fun h3 => by
    cases q1 : dat 10000 h x with
    | none => simp [q1] at h3
    | some d =>
      cases q2 : dat 10000 h y with
      | none => simp [q1, q2] at h3
      | some d' =>
        simp only [q1, q2] at h3
        exact deep d d' q1 q2 h3
  have sc : ∀ {b' : Bool}, scal v u = true → decide (v = u) = b' → b' = b → wO X (compareOp .NotEq) v u H Q := fun hs hd hb => OpR.to op_ne ⟨hs, by rw [hd, hb]; exact q⟩
  unfold eqW at e
  split at e <;> first
    | exact deep' e
    | (cases e
       first
       | (rw [show v = _ from r1, show u = _ from r2] at sc ⊢
          refine sc rfl ?_ rfl
          first
          | rfl
          | simp))
end
end Mn
end
section
set_option Elab.async false
set_option linter.all false
set_option maxRecDepth 100000
set_option maxHeartbeats 1000000
namespace Mn
open PySem PySem.Spec PyProof.Rows L2
variable {G : Env} {ρ ρ' : Nat → Addr} {n n' : Nat} {H H' : Hp} {h h' : Hm}
abbrev PQ (G : Env) (Q : VK) : (Nat → Addr) → Hm → Hp → W → Prop := fun ρ' h' H' w => ∀ v, RV G ρ' h'.n H' w v → Q v H'
section
variable {Q : VK} {E : XK}
theorem Ans.now {α : Type} {a : α} {P : (Nat → Addr) → Hm → Hp → α → Prop} (A : Ans G ρ h H (.ok a h) P E) (S : Sim G ρ h H) : P ρ h H a := A ρ H Nx.refl S
theorem Ans.val {w : W} {v : V} (A : Ans G ρ h H (.ok w h) (PQ G Q) E) (S : Sim G ρ h H) (r : RV G ρ h.n H w v) : Q v H := A.now S v r
theorem Ans.lst {xs : List W} {ys : List V} (A : Ans G ρ h H (new (.lst xs) h) (PQ G Q) E) (S : Sim G ρ h H) (r : RVs G ρ h.n H xs ys) {p : Addr} (hp : H p = none) : Q (.ref p) (upd H p (.lst ys)) :=
  A (ext1 ρ h.n p) (upd H p (.lst ys)) (Nx.new S hp) (S.new hp ⟨ys, upd_same, RVs.ext (Ext.new hp) xs ys r⟩) (.ref p) ⟨Nat.lt_succ_self _, by rw [ext1_same]⟩
theorem Ans.dK {xs : List (Key × W)} {ys : List (Key × V)} (A : Ans G ρ h H (new (.dK xs) h) (PQ G Q) E) (S : Sim G ρ h H) (r : RKV G id ρ h.n H xs ys) {p : Addr} (hp : H p = none) : Q (.ref p) (upd H p (.dK ys)) :=
  A (ext1 ρ h.n p) (upd H p (.dK ys)) (Nx.new S hp) (S.new hp ⟨ys, by rw [if_neg Bool.false_ne_true]; exact upd_same, RKV.ext (Ext.new hp) xs ys r⟩) (.ref p) ⟨Nat.lt_succ_self _, by rw [ext1_same]⟩
theorem Ans.dT {xs : List (List Key × W)} {ys : List (List Key × V)} (A : Ans G ρ h H (new (.dT xs) h) (PQ G Q) E) (S : Sim G ρ h H) (r : RKV G id ρ h.n H xs ys) {p : Addr} (hp : H p = none) : Q (.ref p) (upd H p (.dT ys)) :=
  A (ext1 ρ h.n p) (upd H p (.dT ys)) (Nx.new S hp) (S.new hp ⟨ys, by rw [if_neg Bool.false_ne_true]; exact upd_same, RKV.ext (Ext.new hp) xs ys r⟩) (.ref p) ⟨Nat.lt_succ_self _, by rw [ext1_same]⟩
theorem Ans.tup {xs : List W} {ys : List V} (A : Ans G ρ h H (.ok (.tup xs) h) (PQ G Q) E) (S : Sim G ρ h H) (r : RVs G ρ h.n H xs ys) {p : Addr} (hp : H p = none) : Q (.ref p) (upd H p (.tup ys)) :=
  A ρ (upd H p (.tup ys)) (Nx.temp S hp) (S.temp hp) (.ref p) ⟨p, ys, rfl, upd_same, RVs.ext (Ext.temp hp) xs ys r⟩
end
theorem newL_le {xs : List W} {P : (Nat → Addr) → Hm → Hp → W → Prop} {E : XK} (A : Ans G ρ h H (newL xs h) P E) : xs.length ≤ sizeLine ∧ Ans G ρ h H (new (.lst xs) h) P E := by
  unfold newL at A
  split at A
  · rename_i q
    exact ⟨by rw [← line_eq]; exact q, A⟩
  · exact A.elim
section
variable {X : Cx} {Q : VK} {E : XK}
def bop : BO → Operator
  | .add => .Add | .sub => .Sub | .mul => .Mult | .fdiv => .FloorDiv | .mod => .Mod | .pow => .Pow
theorem op_mulS : OpR X (binaryOp .Mult) (fun x y H Q => ∃ s k, x = .str s ∧ y = .int k ∧ 0 ≤ k ∧ k ≤ 1000 ∧ s.length ≤ 1000 ∧ Q (.str (Txt.mul s k)) H) := by
  intro pins s σ H x y v u Q I rx ry h
  obtain ⟨z, k, rfl, rfl, h0, h1, h2, q⟩ := h
  obtain ⟨t, rfl⟩ := rx
  obtain ⟨t', rfl⟩ := ry
  refine SB.mul ⟨?_, fun h3 _ => ?_, fun h3 _ => ?_⟩ fun t' tk => ⟨.str _, H, I.tok _, ⟨_, rfl⟩, q⟩
  · rw [Bool.or_eq_false_iff]
    exact ⟨decide_eq_false (by omega), decide_eq_false (by omega)⟩
  · have : (9223372036854775807 : Int) / 1000 ≤ (2 ^ 63 - 1) / k := by
      apply Int.le_ediv_of_mul_le (by omega)
      have : (9223372036854775807 : Int) / 1000 = 9223372036854775 := by decide
      rw [this]
      have : (9223372036854775 : Int) * k ≤ 9223372036854775 * 1000 := Int.mul_le_mul_of_nonneg_left h1 (by decide)
      omega
    have e : (9223372036854775807 : Int) / 1000 = 9223372036854775 := by decide
    omega
  · have hk : k.toNat ≤ 1000 := by omega
    have : z.length * k.toNat ≤ 1000 * 1000 := Nat.mul_le_mul h2 hk
    show decide (_ > sizeLine) = false
    rw [sizeLine_eq]
    exact decide_eq_false (by omega)
theorem bin_ok (hK : X.K = G.K) (S : Sim G ρ h H) {o : BO} {x y : W} {v u : V} (r1 : RV G ρ h.n H x v) (r2 : RV G ρ h.n H y u) (A : Ans G ρ h H (binW o x y h) (PQ G Q) E) : wO X (binaryOp (bop o)) v u H Q := by
  cases o with
  | add =>
    unfold binW at A
    dsimp only at A
    split at A
    · rw [r1.int, r2.int]
      exact OpR.to op_add ⟨_, _, rfl, rfl, A.val S rfl⟩
    · split at A
      · rename_i q
        rw [r1.str, r2.str]
        exact OpR.to op_add_str ⟨_, _, rfl, rfl, by rw [← line_eq]; exact q, A.val S rfl⟩
      · exact A.elim
    · split at A
      · rename_i a b xs ys h1 h2
        obtain ⟨ha, rfl⟩ := r1.ref
        obtain ⟨hb, rfl⟩ := r2.ref
        obtain ⟨vs, p1, p2⟩ := S.lst ha h1
        obtain ⟨us, q1, q2⟩ := S.lst hb h2
        obtain ⟨hl, A'⟩ := newL_le A
        rw [List.length_append] at hl
        exact OpR.to op_cat ⟨_, _, vs, us, rfl, rfl, p1, q1, by rw [← p2.length, ← q2.length]; exact hl, fun p hp => A'.lst S (p2.append q2) hp⟩
      · exact A.elim
    · rename_i _ _ ys
      split at A
      · rename_i hl
        obtain ⟨t, vs, rfl, p1, p2⟩ := r1.tup
        obtain ⟨t2, us, rfl, q1, q2⟩ := r2.tup
        obtain ⟨y0, r0, rfl, z1, z2⟩ := p2
        refine OpR.to op_catT ⟨_, _, _, us, rfl, rfl, SqT.of p1, SqT.of q1, List.cons_ne_nil _ _, ?_, fun e => ?_, fun _ p hp => ?_⟩
        · rw [← line_eq, List.length_cons, ← z2.length, ← q2.length]
          rw [List.length_cons] at hl
          exact hl
        · subst e
          have : ys = [] := List.eq_nil_of_length_eq_zero q2.length
          subst this
          refine A.val S ⟨t, _, rfl, p1, ?_⟩
          rw [List.append_nil]
          exact ⟨y0, r0, rfl, z1, z2⟩
        · refine A.tup S (ys := y0 :: r0 ++ us) ?_ hp
          exact RVs.append (xs := _ :: _) ⟨y0, r0, rfl, z1, z2⟩ q2
      · exact A.elim
    · exact A.elim
  | sub =>
    unfold binW at A
    dsimp only at A
    split at A
    · rw [r1.int, r2.int]
      exact OpR.to op_sub ⟨_, _, rfl, rfl, A.val S rfl⟩
    · exact A.elim
  | mul =>
    unfold binW at A
    dsimp only at A
    split at A
    · split at A
      · rename_i q
        rw [r1.int, r2.int]
        exact OpR.to op_mulW ⟨_, _, rfl, rfl, q, A.val S rfl⟩
      · exact A.elim
    · split at A
      · rename_i q
        rw [r1.str, r2.int]
        exact OpR.to op_mulS ⟨_, _, rfl, rfl, q.1, q.2.1, q.2.2, A.val S rfl⟩
      · exact A.elim
    · split at A
      · rename_i a k xs h1
        split at A
        · rename_i q
          obtain ⟨ha, rfl⟩ := r1.ref
          rw [r2.int]
          obtain ⟨vs, p1, p2⟩ := S.lst ha h1
          exact OpR.to op_rep ⟨_, _, vs, rfl, rfl, p1, q.1, q.2.1, by rw [← line_eq, ← p2.length]; exact q.2.2, fun p hp => A.lst S (p2.rep _) hp⟩
        · exact A.elim
      · exact A.elim
    · exact A.elim
  | fdiv =>
    unfold binW at A
    dsimp only at A
    split at A
    · split at A
      · rename_i q
        rw [r1.int, r2.int]
        exact OpR.to op_fdivW ⟨_, _, rfl, rfl, q, A.val S rfl⟩
      · exact A.elim
    · exact A.elim
  | mod =>
    unfold binW at A
    dsimp only at A
    split at A
    · split at A
      · rename_i q
        rw [r1.int, r2.int]
        exact OpR.to op_mod ⟨_, _, rfl, rfl, q, A.val S rfl⟩
      · exact A.elim
    · exact A.elim
  | pow =>
    unfold binW at A
    dsimp only at A
    split at A
    · split at A
      · rename_i q
        rw [r1.int, r2.int]
        exact OpR.to op_pow ⟨_, _, rfl, rfl, q, A.val S rfl⟩
      · exact A.elim
    · exact A.elim
theorem flat_ok {x : W} {v : V} (r : RV G ρ n H x v) (f : flat x = true) : flatV v = true := by
  cases x <;> first
    | cases (show false = true from f)
    | (rw [show v = _ from r]; rfl)
theorem flats_ok : ∀ {xs : List W} {ys : List V}, RVs G ρ n H xs ys → xs.all flat = true → ys.all flatV = true
  | [], _, h, _ => by cases (show _ = [] from h); rfl
  | x :: xs, ys, h, f => by
    obtain ⟨y, r, rfl, h2, h3⟩ : ∃ y r, ys = y :: r ∧ RV G ρ n H x y ∧ RVs G ρ n H xs r := h
    rw [List.all_cons, Bool.and_eq_true] at f ⊢
    exact ⟨flat_ok h2 f.1, flats_ok h3 f.2⟩
theorem eqF_ok {x y : W} {v u : V} (r : RV G ρ n H x v) (r' : RV G ρ n H y u) (f : flat x = true) (f' : flat y = true) : L2.eqV v u = eqF x y := by
  cases x <;> cases y <;> first
    | cases (show false = true from f)
    | cases (show false = true from f')
    | (rw [show v = _ from r, show u = _ from r']; rfl)
theorem anyF_ok {y : W} {u : V} (r' : RV G ρ n H y u) (f' : flat y = true) : ∀ {xs : List W} {ys : List V}, RVs G ρ n H xs ys → xs.all flat = true → L2.inV u ys = xs.any fun x => eqF x y
  | [], _, h, _ => by cases (show _ = [] from h); rfl
  | x :: xs, ys, h, f => by
    obtain ⟨z, r, rfl, h2, h3⟩ : ∃ y r, ys = y :: r ∧ RV G ρ n H x y ∧ RVs G ρ n H xs r := h
    rw [List.all_cons, Bool.and_eq_true] at f
    have ih := anyF_ok r' f' h3 f.2
    unfold L2.inV at ih ⊢
    rw [List.any_cons, List.any_cons, ih, eqF_ok h2 r' f.1 f']
theorem one_ok {s : Str} {c : Nat} (e : one s = some c) : s = ⟨#[c]⟩ := by
  obtain ⟨⟨l⟩⟩ := s
  unfold one at e
  cases l with
  | nil => cases e
  | cons a r =>
    cases r with
    | nil => cases e; rfl
    | cons b r => cases e
end
end Mn
end
section
set_option Elab.async false
set_option linter.all false
set_option maxRecDepth 100000
set_option maxHeartbeats 1000000
namespace Mn
open PySem PySem.Spec PyProof.Rows L2
variable {G : Env} {ρ ρ' : Nat → Addr} {n n' : Nat} {H H' : Hp} {h h' : Hm}
section
variable {X : Cx} {Q : VK} {E : XK}
theorem keyOf_ok {w : W} {k : Key} {v : V} (e : keyOf w = some k) (r : RV G ρ n H w v) : v = kV k := by
  cases w <;> first
    | (cases (show none = some k from e))
    | (cases e; exact r)
theorem keysOf_ok : ∀ {ws : List W} {ks : List Key} {ys : List V}, keysOf ws = some ks → RVs G ρ n H ws ys → ys = ks.map kV
  | [], ks, ys, e, r => by
    cases (show some [] = some ks from e)
    exact r
  | w :: ws, ks, ys, e, r => by
    obtain ⟨y, q, rfl, h2, h3⟩ : ∃ y r, ys = y :: r ∧ RV G ρ n H w y ∧ RVs G ρ n H ws r := r
    have e' : (match keyOf w, keysOf ws with
      | some k, some ks => some (k :: ks)
      | _, _ => none) = some ks := e
    cases q1 : keyOf w with
    | none => simp [q1] at e'
    | some k =>
      cases q2 : keysOf ws with
      | none => simp [q1, q2] at e'
      | some js =>
        simp [q1, q2] at e'
        subst e'
        rw [keyOf_ok q1 h2, keysOf_ok q2 h3]
        rfl
def RVo (G : Env) (ρ : Nat → Addr) (n : Nat) (H : Hp) : Option W → Option V → Prop
  | some w, o => ∃ x, o = some x ∧ RV G ρ n H w x
  | none, o => o = none
theorem dget_ok (S : Sim G ρ h H) {d k : W} {v u : V} {r : Option W} (r1 : RV G ρ h.n H d v) (r2 : RV G ρ h.n H k u) (e : dget d k h = some r) :
    ∃ A o, v = .ref A ∧ DGet H A u o ∧ RVo G ρ h.n H r o := by
  cases d with
  | ref a =>
    obtain ⟨ha, rfl⟩ := r1.ref
    cases q : h.g a with
    | none => simp [dget, q] at e
    | some ob =>
      cases ob with
      | dK kvs =>
        simp only [dget, q] at e
        obtain ⟨j, h1, rfl⟩ := Option.map_eq_some_iff.mp e
        obtain ⟨ys, h2, h3, _⟩ := S.dK ha q
        refine ⟨_, valV ys j, rfl, .inl ⟨ys, j, h2, keyOf_ok h1 r2, rfl⟩, ?_⟩
        have z := h3.look j (fun _ _ e => e)
        cases q2 : look j kvs with
        | none => rw [q2] at z; exact z
        | some w => rw [q2] at z; exact z
      | dT kvs =>
        cases k with
        | tup ks =>
          simp only [dget, q] at e
          obtain ⟨j, h1, rfl⟩ := Option.map_eq_some_iff.mp e
          obtain ⟨ys, h2, h3, _⟩ := S.dT ha q
          obtain ⟨t, vs, rfl, h4, h5⟩ := r2.tup
          rw [keysOf_ok h1 h5] at h4
          refine ⟨_, valV ys j, rfl, .inr ⟨ys, j, t, h2, rfl, h4, rfl⟩, ?_⟩
          have z := h3.look j (fun _ _ e => e)
          cases q2 : look j kvs with
          | none => rw [q2] at z; exact z
          | some w => rw [q2] at z; exact z
        | _ => simp [dget, q] at e
      | _ => simp [dget, q] at e
  | _ => simp [dget] at e
def inop (neg : Bool) : CmpOp := if neg then .NotIn else .In
theorem inL_ok (hK : X.K = G.K) (hu : X.A.units + 65 < cLine) (neg : Bool) (S : Sim G ρ h H) {l : Bool} {x : W} {xs : List W} {v : V} {t : Addr} {ys : List V} {b : Bool} (r1 : RV G ρ h.n H x v) (r2 : RVs G ρ h.n H xs ys)
    (hl : SqL G.K H t ys ∨ (l = false ∧ SqT G.K H t ys)) (e : inL h l x xs = some b) (q : Q (.bl (if neg then !b else b)) H) : wO X (compareOp (inop neg)) v (.ref t) H Q := by
  unfold inL at e
  split at e
  · rename_i hf
    rw [Bool.and_eq_true] at hf
    cases e
    have z := anyF_ok r1 hf.1 r2 hf.2
    have sq : SqL X.K H t ys ∨ SqT X.K H t ys := by
      rw [hK]
      rcases hl with z | ⟨_, z⟩
      · exact .inl z
      · exact .inr z
    cases neg with
    | false => exact OpR.to op_in_seq ⟨_, ys, rfl, sq, flat_ok r1 hf.1, flats_ok r2 hf.2, by rw [z]; exact q⟩
    | true => exact OpR.to op_notIn_seq ⟨_, ys, rfl, sq, flat_ok r1 hf.1, flats_ok r2 hf.2, by rw [z]; exact q⟩
  · split at e
    · rename_i hlt
      rcases hl with hS | ⟨hf, _⟩
      · cases q1 : dat 10000 h x with
        | none => simp [q1] at e
        | some d =>
          cases q2 : dats 10000 h xs with
          | none => simp [q1, q2] at e
          | some ds =>
            simp only [q1, q2] at e
            split at e
            · rename_i hs
              rw [Bool.and_eq_true] at hs
              cases e
              have D1 : Dp X.K H v d := by rw [hK]; exact dat_ok S _ x v d r1 q1
              have D2 : Dp X.K H (.ref t) (.list ds) := by rw [hK]; exact .lst hS (dats_ok S _ xs ys ds r2 q2)
              cases neg with
              | false => exact OpR.to (op_inD hu) ⟨d, ds, D1, D2, hs.1, hs.2, q⟩
              | true => exact OpR.to (op_notInD hu) ⟨d, ds, D1, D2, hs.1, hs.2, q⟩
            · cases e
      · rw [hf] at hlt
        cases hlt
    · cases e
theorem op_dIn (hu : X.A.units + 1 < cLine) : OpR X (compareOp .In) (fun y x H Q => ∃ a o, x = .ref a ∧ DGet H a y o ∧ Q (.bl o.isSome) H) := by
  intro pins s σ H x y v u Q I rx ry h
  obtain ⟨a, o, rfl, g, q⟩ := h
  cases ry
  exact d_in hu I g rx fun s' I' => ⟨.bl o.isSome, H, I', rfl, q⟩
theorem op_dNotIn (hu : X.A.units + 1 < cLine) : OpR X (compareOp .NotIn) (fun y x H Q => ∃ a o, x = .ref a ∧ DGet H a y o ∧ Q (.bl (!o.isSome)) H) := by
  intro pins s σ H x y v u Q I rx ry h
  obtain ⟨a, o, rfl, g, q⟩ := h
  cases ry
  exact d_notIn hu I g rx fun s' I' => ⟨.bl (!o.isSome), H, I', rfl, q⟩
theorem RVo.some_eq {r : Option W} {o : Option V} (e : RVo G ρ n H r o) : o.isSome = r.isSome := by
  cases r with
  | none => rw [show o = none from e]; rfl
  | some w => obtain ⟨x, rfl, _⟩ : ∃ x, o = some x ∧ RV G ρ n H w x := e; rfl
theorem in_ok (hK : X.K = G.K) (hu : X.A.units + 65 < cLine) (neg : Bool) (S : Sim G ρ h H) {x y : W} {v u : V} {b : Bool} (r1 : RV G ρ h.n H x v) (r2 : RV G ρ h.n H y u)
    (e : inW x y h = some b) (q : Q (.bl (if neg then !b else b)) H) : wO X (compareOp (inop neg)) v u H Q := by
  have dict : ∀ (hd : (dget y x h).map Option.isSome = some b), wO X (compareOp (inop neg)) v u H Q := fun hd => by
    obtain ⟨r, h1, rfl⟩ := Option.map_eq_some_iff.mp hd
    obtain ⟨A, o, rfl, h2, h3⟩ := dget_ok S r2 r1 h1
    have z := h3.some_eq
    cases neg with
    | false => exact OpR.to (op_dIn (by omega)) ⟨A, o, rfl, h2, by rw [z]; exact q⟩
    | true => exact OpR.to (op_dNotIn (by omega)) ⟨A, o, rfl, h2, by rw [z]; exact q⟩
  cases y with
  | str t =>
    cases x with
    | str s =>
      have e' : (one s).map (fun c => decide (c ∈ t.cps.toList)) = some b := e
      obtain ⟨c, h1, rfl⟩ := Option.map_eq_some_iff.mp e'
      rw [r1.str, r2.str, one_ok h1]
      cases neg with
      | false => exact OpR.to op_in_sign ⟨c, t, rfl, rfl, q⟩
      | true => exact OpR.to op_notIn_sign ⟨c, t, rfl, rfl, q⟩
    | _ => simp [inW] at e
  | ref a =>
    obtain ⟨ha, rfl⟩ := r2.ref
    cases q1 : h.g a with
    | none => simp [inW, q1] at e
    | some o =>
      cases o with
      | lst xs =>
        simp only [inW, q1] at e
        obtain ⟨ys, h1, h2⟩ := S.lst ha q1
        exact inL_ok hK hu neg S r1 h2 (.inl (SqL.of h1)) e q
      | ins c fs => simp [inW, q1] at e
      | dK kvs =>
        simp only [inW, q1] at e
        exact dict e
      | dT kvs =>
        simp only [inW, q1] at e
        exact dict e
  | klst xs =>
    obtain ⟨t, ys, rfl, h1, h2⟩ := r2.klst
    exact inL_ok hK hu neg S r1 h2 (.inl h1.sq) e q
  | tup xs =>
    obtain ⟨t, ys, rfl, h1, h2⟩ := r2.tup
    exact inL_ok hK hu neg S r1 h2 (.inr ⟨rfl, SqT.of h1⟩) e q
  | ktup xs =>
    obtain ⟨t, ys, rfl, h1, h2⟩ := r2.ktup
    exact inL_ok hK hu neg S r1 h2 (.inr ⟨rfl, h1⟩) e q
  | _ => simp [inW, seqW, rdL] at e
def cop : CO → CmpOp
  | .eq => .Eq | .ne => .NotEq | .lt => .Lt | .le => .LtE | .gt => .Gt | .ge => .GtE | .isin => .In | .notin => .NotIn | .isn => .Is | .isnotn => .IsNot
theorem RV.nonon {x : W} {v : V} (r : RV G ρ n H x v) (hx : x ≠ .non) : v ≠ .non := by
  cases x with
  | non => exact absurd rfl hx
  | bl b => rw [r.bl]; exact fun z => by cases z
  | int b => rw [r.int]; exact fun z => by cases z
  | str b => rw [r.str]; exact fun z => by cases z
  | ref b => rw [r.ref.2]; exact fun z => by cases z
  | tup b => obtain ⟨t, ys, rfl, _⟩ := r.tup; exact fun z => by cases z
  | ktup b => obtain ⟨t, ys, rfl, _⟩ := r.ktup; exact fun z => by cases z
  | klst b => obtain ⟨t, ys, rfl, _⟩ := r.klst; exact fun z => by cases z
theorem cmp_ok (hK : X.K = G.K) (hu : X.A.units + 65 < cLine) (S : Sim G ρ h H) {o : CO} {x y : W} {v u : V} {b : Bool} (r1 : RV G ρ h.n H x v) (r2 : RV G ρ h.n H y u)
    (e : cmpW o x y h = some b) (q : Q (.bl b) H) : wO X (compareOp (cop o)) v u H Q := by
  cases o with
  | eq => exact eq_ok hK (by omega) S r1 r2 e q
  | ne =>
    obtain ⟨c, h1, rfl⟩ := Option.map_eq_some_iff.mp (show (eqW h x y).map (!·) = some b from e)
    exact ne_ok hK (by omega) S r1 r2 h1 q
  | isin => exact in_ok hK hu false S r1 r2 e q
  | notin =>
    obtain ⟨c, h1, rfl⟩ := Option.map_eq_some_iff.mp (show (inW x y h).map (!·) = some b from e)
    exact in_ok hK hu true S r1 r2 h1 q
  | lt =>
    unfold cmpW at e
    dsimp only at e
    split at e
    · cases e
      rw [r1.int, r2.int]
      exact OpR.to op_lt ⟨_, _, rfl, rfl, q⟩
    · cases e
  | le =>
    unfold cmpW at e
    dsimp only at e
    split at e
    · cases e
      rw [r1.int, r2.int]
      exact OpR.to op_le ⟨_, _, rfl, rfl, q⟩
    · cases e
  | gt =>
    unfold cmpW at e
    dsimp only at e
    split at e
    · cases e
      rw [r1.int, r2.int]
      exact OpR.to op_gt ⟨_, _, rfl, rfl, q⟩
    · cases e
  | ge =>
    unfold cmpW at e
    dsimp only at e
    split at e
    · cases e
      rw [r1.int, r2.int]
      exact OpR.to op_ge ⟨_, _, rfl, rfl, q⟩
    · cases e
  | isn =>
    unfold cmpW at e
    dsimp only at e
    split at e
    · cases e
      rw [r1.non, r2.non]
      exact OpR.to op_isN ⟨rfl, q⟩
    · rename_i hx
      cases e
      rw [r2.non]
      refine OpR.to op_isN ⟨rfl, ?_⟩
      rw [decide_eq_false (r1.nonon fun z => hx z)]
      exact q
    · cases e
      rw [r1.bl, r2.bl]
      exact OpR.to op_isBl ⟨_, _, rfl, rfl, q⟩
    · cases e
  | isnotn =>
    unfold cmpW at e
    dsimp only at e
    split at e
    · cases e
      rw [r1.non, r2.non]
      exact OpR.to op_notN ⟨rfl, q⟩
    · rename_i hx
      cases e
      rw [r2.non]
      refine OpR.to op_notN ⟨rfl, ?_⟩
      rw [decide_eq_false (r1.nonon fun z => hx z)]
      exact q
    · cases e
      rw [r1.bl, r2.bl]
      exact OpR.to op_isnot_bl ⟨_, _, rfl, rfl, q⟩
    · cases e
theorem truV_ok (S : Sim G ρ h H) {x : W} {v : V} {t : Bool} (r : RV G ρ h.n H x v) (e : truW x h = some t) : TruV G.K v H t := by
  cases x with
  | non => rw [r.non]; cases e; rfl
  | bl b => rw [r.bl]; cases e; rfl
  | int b => rw [r.int]; cases e; rfl
  | str s =>
    rw [r.str]
    have e' : (if s.length ≤ line then some ((s.length : Int) != 0) else none) = some t := e
    split at e'
    · rename_i hl
      cases e'
      exact ⟨by rw [← line_eq]; exact hl, rfl⟩
    · cases e'
  | ref a =>
    obtain ⟨ha, rfl⟩ := r.ref
    cases q1 : h.g a with
    | none => simp [truW, q1] at e
    | some o =>
      cases o with
      | lst xs =>
        simp [truW, q1] at e
        obtain ⟨ys, h1, h2⟩ := S.lst ha q1
        refine .inl ⟨ys, SqL.of h1, ?_⟩
        have := h2.length
        cases xs <;> cases ys <;> first | (simpa using e.symm) | (simp at this)
      | _ => simp [truW, q1] at e
  | tup xs =>
    obtain ⟨t', ys, rfl, h1, h2⟩ := r.tup
    cases (show some (!xs.isEmpty) = some t from e)
    refine .inr (.inl ⟨ys, SqT.of h1, ?_⟩)
    have := h2.length
    cases xs <;> cases ys <;> first | rfl | (simp at this)
  | ktup xs =>
    obtain ⟨t', ys, rfl, h1, h2⟩ := r.ktup
    cases (show some (!xs.isEmpty) = some t from e)
    refine .inr (.inl ⟨ys, h1, ?_⟩)
    have := h2.length
    cases xs <;> cases ys <;> first | rfl | (simp at this)
  | klst xs =>
    obtain ⟨t', ys, rfl, h1, h2⟩ := r.klst
    cases (show some (!xs.isEmpty) = some t from e)
    refine .inl ⟨ys, h1.sq, ?_⟩
    have := h2.length
    cases xs <;> cases ys <;> first | rfl | (simp at this)
theorem tru_okW (hK : X.K = G.K) (S : Sim G ρ h H) {x : W} {v : V} {t : Bool} {R : Bool → Hp → Prop} (r : RV G ρ h.n H x v) (e : truW x h = some t) (q : R t H) : wTru X v H R :=
  TruR.to tru_ok ⟨t, by rw [hK]; exact truV_ok S r e, q⟩
def wI (X : Cx) : R2 := fun x y H Q => ∀ value slice pins s σ v u, Inv X pins σ H s → RelV x v → RelV y u → subscripted slice false v u = operate [v, u] (getItem v u) → wpAny (model X.prog X.w) X.A (subscriptTail value slice v u) (EP X pins σ Q) X.xe s
theorem ixW : IxR X (wI X) := fun value slice pins s σ H x y v u Q I rx ry h hs => h value slice pins s σ v u I rx ry hs
theorem IxR.to {r : R2} (o : IxR X r) {x y : V} (h : r x y H Q) : wI X x y H Q := fun value slice pins s σ v u I rx ry hs => o value slice pins s σ H x y v u Q I rx ry h hs
theorem ix_dict (hu : X.A.units + 1 < cLine) : IxR X (fun x y H Q => ∃ a v, x = .ref a ∧ DGet H a y (some v) ∧ Q v H) := by
  intro value slice pins s σ H x y v u Q I rx ry h hs
  obtain ⟨a, z, rfl, g, q⟩ := h
  cases rx
  exact tail_any (dict_typeIs I g) PySem.F.slot_dict_getitem.lookup (d_getItem hu I g ry fun w' s3 I3 rw' => ⟨z, H, I3, rw', q⟩) hs
theorem ixn_ok {k : Nat} {i : Int} : ixn k i = ixN k i := rfl
theorem at_ok {xs : List W} {ys : List V} {i : Int} {w : W} (r : RVs G ρ n H xs ys) (e : ((ixn xs.length i).bind fun j => xs[j]?) = some w) : ∃ v, atI ys i = some v ∧ RV G ρ n H w v := by
  obtain ⟨j, h1, h2⟩ := Option.bind_eq_some_iff.mp e
  obtain ⟨v, h3, h4⟩ := r.get h2
  refine ⟨v, ?_, h4⟩
  unfold atI
  rw [← r.length, ← ixn_ok, h1]
  exact h3
theorem sub_ok (hK : X.K = G.K) (hu : X.A.units + 65 < cLine) (S : Sim G ρ h H) {x y w : W} {v u : V} (r1 : RV G ρ h.n H x v) (r2 : RV G ρ h.n H y u) (e : Mn.sub x y h = some w) (q : ∀ z, RV G ρ h.n H w z → Q z H) : wI X v u H Q := by
  have list : ∀ {xs : List W} {ys : List V} {t : Addr} {i : Int}, SqL G.K H t ys → RVs G ρ h.n H xs ys → v = .ref t → y = .int i → ((ixn xs.length i).bind fun j => xs[j]?) = some w → wI X v u H Q := fun {xs ys t i} hS hr hv hy hb => by
    subst hv hy
    obtain ⟨z, h1, h2⟩ := at_ok hr hb
    exact IxR.to ix_list ⟨t, ys, i, z, rfl, r2.int, by rw [hK]; exact hS, h1, q z h2⟩
  have tupl : ∀ {xs : List W} {ys : List V} {t : Addr} {i : Int}, SqT G.K H t ys → RVs G ρ h.n H xs ys → v = .ref t → y = .int i → ((ixn xs.length i).bind fun j => xs[j]?) = some w → wI X v u H Q := fun {xs ys t i} hS hr hv hy hb => by
    subst hv hy
    obtain ⟨z, h1, h2⟩ := at_ok hr hb
    exact IxR.to ix_tup ⟨t, ys, i, z, rfl, r2.int, by rw [hK]; exact hS, h1, q z h2⟩
  have dict : (dget x y h).bind id = some w → wI X v u H Q := fun hd => by
    obtain ⟨r, h1, h2⟩ := Option.bind_eq_some_iff.mp hd
    cases (show r = some w from h2)
    obtain ⟨A, o, rfl, h3, z, rfl, h4⟩ := dget_ok S r1 r2 h1
    exact IxR.to (ix_dict (by omega)) ⟨A, z, rfl, h3, q z h4⟩
  cases x with
  | ref a =>
    obtain ⟨ha, hv⟩ := r1.ref
    cases q1 : h.g a with
    | none => simp [Mn.sub, q1] at e
    | some o =>
      cases o with
      | lst xs =>
        obtain ⟨ys, h1, h2⟩ := S.lst ha q1
        cases y with
        | int i =>
          simp only [Mn.sub, q1] at e
          exact list (SqL.of h1) h2 hv rfl e
        | _ => simp [Mn.sub, q1] at e
      | dK kvs =>
        simp only [Mn.sub, q1] at e
        exact dict e
      | dT kvs =>
        simp only [Mn.sub, q1] at e
        exact dict e
      | ins c fs =>
        simp only [Mn.sub, q1] at e
        exact dict e
  | tup xs =>
    obtain ⟨t, ys, hv, h1, h2⟩ := r1.tup
    cases y with
    | int i => exact tupl (SqT.of h1) h2 hv rfl e
    | _ => simp [Mn.sub] at e
  | ktup xs =>
    obtain ⟨t, ys, hv, h1, h2⟩ := r1.ktup
    cases y with
    | int i => exact tupl h1 h2 hv rfl e
    | _ => simp [Mn.sub] at e
  | klst xs =>
    obtain ⟨t, ys, hv, h1, h2⟩ := r1.klst
    cases y with
    | int i => exact list h1.sq h2 hv rfl e
    | _ => simp [Mn.sub] at e
  | str s =>
    cases y with
    | int i =>
      have e' : (if s.length ≤ line then ((ixn s.cps.toList.length i).bind fun j => s.cps.toList[j]?).map fun c => W.str ⟨#[c]⟩ else none) = some w := e
      split at e'
      · rename_i hl
        obtain ⟨c, h1, rfl⟩ := Option.map_eq_some_iff.mp e'
        rw [r1.str, r2.int]
        exact IxR.to ix_str ⟨s, i, c, rfl, rfl, by rw [← line_eq]; exact hl, h1, q _ rfl⟩
      · cases e'
    | _ => simp [Mn.sub] at e
  | _ => simp [Mn.sub] at e
def wSl (X : Cx) : V → Option Int → Option Int → Hp → VK → Prop := fun x lo hi H Q => ∀ pins s σ v vl vu sl, Inv X pins σ H s → RelV x v → s.heap.IsSliceOf sl vl vu .none → IsPart vl lo → IsPart vu hi →
    ∃ T id, typeLookup (.type T) "__getitem__" = pure (some (.builtin id)) ∧ s.TypeIs v T ∧ wpAny (model X.prog X.w) X.A (getItem v (.ref sl)) (EP X pins σ Q) X.xe s
theorem slW : SlR X (wSl X) := fun pins s σ H x v vl vu lo hi sl Q I rx hs pl pu h => h pins s σ v vl vu sl I rx hs pl pu
theorem SlR.to {r : V → Option Int → Option Int → Hp → VK → Prop} (o : SlR X r) {x : V} {lo hi : Option Int} (h : r x lo hi H Q) : wSl X x lo hi H Q := fun pins s σ v vl vu sl I rx hs pl pu => o pins s σ H x v vl vu lo hi sl Q I rx hs pl pu h
theorem cutIx_ok (n d : Nat) (o : Option Int) : cutIx n d o = HT.sIx n d o := by
  cases o with
  | none => rfl
  | some v =>
    have e := HT.clip_eq v n d
    show (if v < 0 then max (v + (n : Int)) 0 else min v (n : Int)).toNat = _
    rw [e, Int.toNat_natCast]
theorem cut_ok {xs : List W} {ys : List V} (r : RVs G ρ n H xs ys) (lo hi : Option Int) : RVs G ρ n H (cut xs lo hi) (cutV ys lo hi) := by
  unfold cut cutV
  rw [r.length, cutIx_ok, cutIx_ok]
  exact (r.drop _).take _
theorem cutW_ok (hK : X.K = G.K) (S : Sim G ρ h H) {x : W} {v : V} {lo hi : Option Int} (r : RV G ρ h.n H x v) (A : Ans G ρ h H (Mn.cutV' x lo hi h) (PQ G Q) E) : wSl X v lo hi H Q := by
  unfold Mn.cutV' at A
  have list : ∀ {xs : List W} {ys : List V} {t : Addr}, SqL G.K H t ys → RVs G ρ h.n H xs ys → v = .ref t → Ans G ρ h H (new (.lst (cut xs lo hi)) h) (PQ G Q) E → wSl X v lo hi H Q := fun {xs ys t} hS hr hv hA => by
    subst hv
    exact SlR.to sl_list ⟨t, ys, rfl, by rw [hK]; exact hS, fun p hp => hA.lst S (cut_ok hr lo hi) hp⟩
  cases x with
  | tup xs =>
    obtain ⟨t, ys, rfl, h1, h2⟩ := r.tup
    dsimp only at A
    refine SlR.to sl_tupA ⟨t, ys, rfl, by rw [hK]; exact SqT.of h1, fun e => ?_, fun _ p hp => A.tup S (cut_ok h2 lo hi) hp⟩
    refine A.val S ⟨t, ys, rfl, h1, ?_⟩
    have z := cut_ok h2 lo hi
    have ey : cutV ys lo hi = ys := by
      unfold cutV
      rw [e.1, e.2, List.drop_zero, Nat.sub_zero, List.take_length]
    rw [ey] at z
    exact z
  | str s =>
    dsimp only at A
    split at A
    · rename_i hz
      rw [r.str]
      refine SlR.to sl_str ⟨s, rfl, by rw [← line_eq]; exact hz, ?_⟩
      have z := A.val S rfl
      have e : cutS s lo hi = ⟨(cut s.cps.toList lo hi).toArray⟩ := by
        unfold cutS cut
        rw [cutIx_ok, cutIx_ok]
        rfl
      rw [e]
      exact z
    · exact A.elim
  | ref a =>
    dsimp only at A
    split at A
    · rename_i xs e
      obtain ⟨t, ys, hv, h1, h2⟩ := rdL_ok S r e
      exact list h1 h2 hv A
    · exact A.elim
  | klst xs =>
    obtain ⟨t, ys, hv, h1, h2⟩ := r.klst
    exact list h1.sq h2 hv A
  | _ => exact (show False from A).elim
end
end Mn
end
section
set_option Elab.async false
set_option linter.all false
set_option maxRecDepth 100000
set_option maxHeartbeats 2000000
namespace Mn
open PySem PySem.Spec PyProof.Rows L2
section
variable {α : Type} {le : α → α → Bool}
theorem insD_mid (a : α) : ∀ (l1 l2 : List α), (∀ b, b ∈ l1 → (!le a b) = true) → (∀ b, l2.head? = some b → le a b = true) → insD le a (l1 ++ l2) = l1 ++ a :: l2
  | [], [], _, _ => rfl
  | [], b :: r, _, h2 => by
    show (if le a b = true then a :: b :: r else b :: insD le a r) = a :: b :: r
    rw [if_pos (h2 b rfl)]
  | b :: l1, l2, h1, h2 => by
    have e : le a b = false := by
      have := h1 b List.mem_cons_self
      simpa using this
    show (if le a b = true then a :: b :: (l1 ++ l2) else b :: insD le a (l1 ++ l2)) = b :: (l1 ++ a :: l2)
    rw [if_neg (by rw [e]; exact Bool.false_ne_true), insD_mid a l1 l2 (fun c hc => h1 c (List.mem_cons_of_mem _ hc)) h2]
theorem mergeSort_eq (T : PySem.W.TotalLe le) : ∀ l : List α, l.mergeSort le = sortD le l
  | [] => by rw [List.mergeSort_nil]; rfl
  | a :: l => by
    have tt : ∀ a b : α, (le a b || le b a) = true := fun a b => by
      rcases T.total a b with h | h <;> simp [h]
    obtain ⟨l1, l2, e1, e2, e3⟩ := List.mergeSort_cons (fun a b c => T.trans a b c) tt a l
    rw [e1]
    show _ = insD le a (sortD le l)
    rw [← mergeSort_eq T l, e2, insD_mid a l1 l2 e3]
    intro b hb
    have s : List.Pairwise (fun a b => le a b = true) ((a :: l).mergeSort le) := List.pairwise_mergeSort (fun a b c => T.trans a b c) tt _
    rw [e1] at s
    have s2 := (List.pairwise_append.mp s).2.1
    cases l2 with
    | nil => cases hb
    | cons c r =>
      cases hb
      exact (List.pairwise_cons.mp s2).1 _ List.mem_cons_self
end
theorem dataLe_total {β : Type} (k : β → PyData) : PySem.W.TotalLe (PySem.W.dataLe false k) := PySem.W.sortLe_total _ _ _
theorem insD_mem {α : Type} {le : α → α → Bool} {a x : α} : ∀ {l : List α}, x ∈ insD le a l → x = a ∨ x ∈ l
  | [], h => .inl (by simpa [insD] using h)
  | b :: l, h => by
    have h' : x ∈ (if le a b = true then a :: b :: l else b :: insD le a l) := h
    split at h'
    · rcases List.mem_cons.mp h' with e | e
      · exact .inl e
      · exact .inr e
    · rcases List.mem_cons.mp h' with e | e
      · exact .inr (by rw [e]; exact List.mem_cons_self)
      · rcases insD_mem e with q | q
        · exact .inl q
        · exact .inr (List.mem_cons_of_mem _ q)
theorem sortD_mem {α : Type} {le : α → α → Bool} {x : α} : ∀ {l : List α}, x ∈ sortD le l → x ∈ l
  | [], h => h
  | a :: l, h => by
    rcases insD_mem h with q | q
    · rw [q]; exact List.mem_cons_self
    · exact List.mem_cons_of_mem _ (sortD_mem q)
theorem insD_len {α : Type} {le : α → α → Bool} {a : α} : ∀ {l : List α}, (insD le a l).length = l.length + 1
  | [] => rfl
  | b :: l => by
    show (if le a b = true then a :: b :: l else b :: insD le a l).length = _
    split
    · rfl
    · rw [List.length_cons, insD_len, List.length_cons]
theorem sortD_len {α : Type} {le : α → α → Bool} : ∀ {l : List α}, (sortD le l).length = l.length
  | [] => rfl
  | a :: l => by
    show (insD le a (sortD le l)).length = _
    rw [insD_len, sortD_len, List.length_cons]
theorem insD_pair {α β γ : Type} {le : γ → γ → Bool} {R : α → β → Prop} {ka : α → γ} {kb : β → γ} {a : α} {b : β} (r : R a b) (e : ka a = kb b) : ∀ {xs : List α} {ys : List β}, PySem.W.EachIs (fun a b => R a b ∧ ka a = kb b) xs ys →
    PySem.W.EachIs (fun a b => R a b ∧ ka a = kb b) (insD (fun x y => le (ka x) (ka y)) a xs) (insD (fun x y => le (kb x) (kb y)) b ys)
  | _, _, .nil => .cons ⟨r, e⟩ .nil
  | x :: xs, y :: ys, .cons h t => by
    show PySem.W.EachIs _ (if le (ka a) (ka x) = true then a :: x :: xs else x :: insD _ a xs) (if le (kb b) (kb y) = true then b :: y :: ys else y :: insD _ b ys)
    rw [e, h.2]
    split
    · exact .cons ⟨r, e⟩ (.cons h t)
    · exact .cons h (insD_pair r e t)
theorem sortD_pair {α β γ : Type} {le : γ → γ → Bool} {R : α → β → Prop} {ka : α → γ} {kb : β → γ} : ∀ {xs : List α} {ys : List β}, PySem.W.EachIs (fun a b => R a b ∧ ka a = kb b) xs ys →
    PySem.W.EachIs (fun a b => R a b ∧ ka a = kb b) (sortD (fun x y => le (ka x) (ka y)) xs) (sortD (fun x y => le (kb x) (kb y)) ys)
  | _, _, .nil => .nil
  | _, _, .cons h t => insD_pair h.1 h.2 (sortD_pair t)
theorem sortable_ok {ds : List PyData} (h : sortable ds = true) : PySem.W.AllAlike ds ∧ PySem.W.Sortable ds ∧ ∀ d ∈ ds, d.depth ≤ 64 := by
  unfold sortable at h
  rw [Bool.and_eq_true, Bool.and_eq_true, Bool.or_eq_true] at h
  obtain ⟨⟨h1, h2⟩, h3⟩ := h
  refine ⟨fun d hd d' hd' => ?_, ?_, fun d hd => ?_⟩
  · exact List.all_eq_true.mp (List.all_eq_true.mp h1 d hd) d' hd'
  · rcases h2 with h2 | h2
    · refine .inl fun d hd => ?_
      have z := List.all_eq_true.mp h2 d hd
      cases d with
      | tuple xs =>
        cases xs with
        | nil => cases z
        | cons x r => exact ⟨x, r, rfl⟩
      | _ => cases z
    · refine .inr fun d hd => ?_
      have z := List.all_eq_true.mp h2 d hd
      cases d with
      | tuple xs => cases z
      | none => cases z
      | _ => exact ⟨fun q => (by cases q), fun xs q => (by cases q)⟩
  · exact of_decide_eq_true (List.all_eq_true.mp h3 d hd)
section
variable {X : Cx}
theorem each_zip {h : Heap} : ∀ {ys : List V} {its : List Value} {ds : List PyData} {as : List Addr}, Vals ys its → ReadsAll h its ds as → PySem.W.EachIs (fun u (b : V × PyData) => RelV b.1 u) its (ys.zip ds) ∧ PySem.W.EachIs (fun u (b : V × PyData) => ∃ as, Reads h u b.2 as) its (ys.zip ds)
  | _, _, _, _, .nil, .nil => ⟨.nil, .nil⟩
  | _, _, _, _, .cons r t, .cons q p => ⟨.cons r (each_zip t p).1, .cons ⟨_, q⟩ (each_zip t p).2⟩
theorem each_vals : ∀ {us : List Value} {bs : List (V × PyData)}, PySem.W.EachIs (fun u (b : V × PyData) => RelV b.1 u) us bs → Vals (bs.map (·.1)) us
  | _, _, .nil => .nil
  | _, _, .cons r t => .cons r (each_vals t)
theorem zip_snd {α β : Type} : ∀ {xs : List α} {ys : List β}, xs.length = ys.length → (xs.zip ys).map (·.2) = ys
  | [], [], _ => rfl
  | x :: xs, y :: ys, h => by
    show y :: (xs.zip ys).map (·.2) = y :: ys
    rw [zip_snd (Nat.succ.inj h)]
  | [], _ :: _, h => by cases h
  | _ :: _, [], h => by cases h
theorem zip_fst {α β : Type} : ∀ {xs : List α} {ys : List β}, xs.length = ys.length → (xs.zip ys).map (·.1) = xs
  | [], [], _ => rfl
  | x :: xs, y :: ys, h => by
    show x :: (xs.zip ys).map (·.1) = x :: xs
    rw [zip_fst (Nat.succ.inj h)]
  | [], _ :: _, h => by cases h
  | _ :: _, [], h => by cases h
theorem DpAll.len {K : PySem.W.Frag} {H : Hp} : ∀ {ys : List V} {ds : List PyData}, DpAll K H ys ds → ys.length = ds.length
  | _, _, .nil => rfl
  | _, _, .cons _ t => by rw [List.length_cons, List.length_cons, DpAll.len t]
theorem cr_sortD (hu : X.A.units + 70 < cLine) : CallR X (.builtin "sorted") (fun vs H Q => ∃ (a : Addr) (ys : List V) (ds : List PyData), vs = [V.ref a] ∧ SqL X.K H a ys ∧ DpAll X.K H ys ds ∧ sortable ds = true ∧
    ∀ p, H p = none → Q (.ref p) (upd H p (.lst ((sortD (PySem.W.dataLe false fun b : V × PyData => b.2) (ys.zip ds)).map (·.1))))) := by
  intro pins s σ H vs us Q I r h
  obtain ⟨a, ys, ds, rfl, hs, hd, hso, q⟩ := h
  obtain ⟨hal, hk, hdp⟩ := sortable_ok hso
  obtain ⟨its, rv, pl, hz⟩ := I.list hs
  rw [Vals.ref1 r]
  obtain ⟨as, rd⟩ := Dp.readsAll I ds _ its hd rv
  obtain ⟨e1, e2⟩ := each_zip rv rd
  have hln := DpAll.len hd
  have hzl : (ys.zip ds).length = ys.length := by rw [List.length_zip, hln, Nat.min_self]
  have hds : (ys.zip ds).map (·.2) = ds := zip_snd hln
  refine PySem.W.sorted_data (enc := fun b : V × PyData => b.2) pl.isList e1 e2 (by rw [hds]; exact hal) (by rw [hds]; exact hk) (by rw [hzl]; exact hz) (fun b hb => ?_) fun out hol he => ?_
  · have := hdp b.2 (by rw [← hds]; exact List.mem_map_of_mem hb)
    omega
  · rw [mergeSort_eq (dataLe_total _)] at he
    obtain ⟨ep, he'⟩ := PyProof.Rows.sortedAll_at s.heap its (List.toArray out)
    have hlen : ((sortD (PySem.W.dataLe false fun b : V × PyData => b.2) (ys.zip ds)).map (·.1)).length ≤ sizeLine := by rw [List.length_map, sortD_len, hzl]; exact hz
    exact ⟨.ref _, upd H (s.heap.objs.size + 1) (.lst ((sortD (PySem.W.dataLe false fun b : V × PyData => b.2) (ys.zip ds)).map (·.1))), I.laid (t' := s.toks) (fun _ _ => PyProof.Rows.sortedAll_old) (Nat.le_succ _) ⟨hlen, out, ep, each_vals he, by simpa using he'⟩, rfl, q _ (I.hok.fresh (Nat.le_succ _))⟩
theorem ints_reads {h : Heap} : ∀ {is : List Int} {its : List Value}, Vals (is.map V.int) its → ReadsAll h its (is.map PyData.int) []
  | [], _, .nil => .nil
  | i :: is, _, .cons r t => by
    obtain ⟨k, rfl⟩ := r
    have e : ([] : List Addr) = [] ++ [] := rfl
    rw [e]
    exact .cons (.int i k) (ints_reads t)
theorem ints_depth : ∀ is : List Int, PyData.depthAll (is.map PyData.int) ≤ 1
  | [] => by simp [PyData.depthAll]
  | i :: is => by
    have := ints_depth is
    simp only [List.map_cons, PyData.depthAll, PyData.depth]
    omega
theorem ints_alike (is : List Int) : PySem.W.AlikeAll (is.map PyData.int) := by
  refine ⟨fun x hx y hy => ?_, fun x hx => ?_⟩
  · obtain ⟨i, _, rfl⟩ := List.mem_map.mp hx
    obtain ⟨j, _, rfl⟩ := List.mem_map.mp hy
    rfl
  · obtain ⟨i, _, rfl⟩ := List.mem_map.mp hx
    exact fun z => by cases z
def rMM (K : PySem.W.Frag) (f : Int → Int → Int) : List V → Hp → VK → Prop := fun vs H Q => ∃ (a : Addr) (i : Int) (is : List Int), vs = [V.ref a] ∧ (SqL K H a ((i :: is).map V.int) ∨ SqT K H a ((i :: is).map V.int)) ∧ Q (.int (is.foldl f i)) H
theorem cr_maxW (hc : X.calm = true) (hu : X.A.units + 65 < cLine) : CallR X (.builtin "max") (rMM X.K max) := by
  intro pins s σ H vs us Q I r h
  obtain ⟨a, i, is, rfl, hs, q⟩ := h
  rw [Vals.ref1 r]
  have hd := ints_depth (i :: is)
  have fin : ∀ (j : Nat) (v : Value) (h' : Heap) (tk : Nat) (bs : List Addr), Reads h' v (PySem.W.maxD (.int i) (is.map .int)) bs → (∀ b o, s.heap.get? b = some o → h'.get? b = some o) → EP X pins σ Q v { s with heap := h', toks := tk } := fun j v h' tk bs rr hk => by
    rw [PySem.W.maxD_ints] at rr
    cases rr with
    | int n t => exact ⟨.int _, H, I.kept hk, ⟨_, rfl⟩, q⟩
  rcases hs with hs | hs
  · obtain ⟨its, rv, pl, _⟩ := I.list hs
    exact PySem.W.max_list_data (I.ok.hd hc) pl.isList (show ReadsAll s.heap its.toArray.toList (.int i :: is.map .int) [] from by simpa using ints_reads (is := i :: is) rv) (ints_alike (i :: is)) (by show X.A.units + 1 + PyData.depthAll ((i :: is).map PyData.int) < _; omega) fun j v h' tk bs _ rr hk => fin j v h' tk bs rr hk
  · obtain ⟨its, rv, pl, _⟩ := I.tuple hs
    exact PySem.W.max_tuple_data (I.ok.hd hc) pl (show ReadsAll s.heap its.toArray.toList (.int i :: is.map .int) [] from by simpa using ints_reads (is := i :: is) rv) (ints_alike (i :: is)) (by show X.A.units + 1 + PyData.depthAll ((i :: is).map PyData.int) < _; omega) fun j v h' tk bs _ rr hk => fin j v h' tk bs rr hk
theorem cr_minW (hc : X.calm = true) (hu : X.A.units + 65 < cLine) : CallR X (.builtin "min") (rMM X.K min) := by
  intro pins s σ H vs us Q I r h
  obtain ⟨a, i, is, rfl, hs, q⟩ := h
  rw [Vals.ref1 r]
  have hd := ints_depth (i :: is)
  have fin : ∀ (j : Nat) (v : Value) (h' : Heap) (tk : Nat) (bs : List Addr), Reads h' v (PySem.W.minD (.int i) (is.map .int)) bs → (∀ b o, s.heap.get? b = some o → h'.get? b = some o) → EP X pins σ Q v { s with heap := h', toks := tk } := fun j v h' tk bs rr hk => by
    rw [PySem.W.minD_ints] at rr
    cases rr with
    | int n t => exact ⟨.int _, H, I.kept hk, ⟨_, rfl⟩, q⟩
  rcases hs with hs | hs
  · obtain ⟨its, rv, pl, _⟩ := I.list hs
    exact PySem.W.min_list_data (I.ok.hd hc) pl.isList (show ReadsAll s.heap its.toArray.toList (.int i :: is.map .int) [] from by simpa using ints_reads (is := i :: is) rv) (ints_alike (i :: is)) (by show X.A.units + 1 + PyData.depthAll ((i :: is).map PyData.int) < _; omega) fun j v h' tk bs _ rr hk => fin j v h' tk bs rr hk
  · obtain ⟨its, rv, pl, _⟩ := I.tuple hs
    exact PySem.W.min_tuple_data (I.ok.hd hc) pl (show ReadsAll s.heap its.toArray.toList (.int i :: is.map .int) [] from by simpa using ints_reads (is := i :: is) rv) (ints_alike (i :: is)) (by show X.A.units + 1 + PyData.depthAll ((i :: is).map PyData.int) < _; omega) fun j v h' tk bs _ rr hk => fin j v h' tk bs rr hk
theorem cr_lenT : CallR X (.builtin "len") (fun xs H Q => ∃ (p : Addr) (kvs : List (List Key × V)), xs = [.ref p] ∧ Rd H p (.dT kvs) ∧ Q (.int ((kvs.length : Nat) : Int)) H) := by
  intro pins s σ H xs us Q I r h
  obtain ⟨p, kvs, rfl, hd, q⟩ := h
  obtain ⟨u, rfl, rx⟩ := vals1 r
  obtain rfl : u = .ref p := rx
  obtain ⟨z, hs, ks, pr, dd⟩ := dt_rd I.hok hd
  have hl : kvs.length = ks.length := Paired.length pr
  refine call_len_dictH hs dd (by rw [← hl]; rw [sizeLine_eq] at z; omega) ?_
  rw [← hl]
  exact ⟨.int _, H, I.tok _, ⟨_, rfl⟩, q⟩
theorem cr_lenD : CallR X (.builtin "len") (fun xs H Q => ∃ (p : Addr) (kvs : List (Key × V)), xs = [.ref p] ∧ Rd H p (.dK kvs) ∧ Q (.int ((kvs.length : Nat) : Int)) H) := by
  intro pins s σ H xs us Q I r h
  obtain ⟨p, kvs, rfl, hd, q⟩ := h
  obtain ⟨u, rfl, rx⟩ := vals1 r
  obtain rfl : u = .ref p := rx
  exact d_len I hd fun t s' I' => ⟨.int kvs.length, H, I', ⟨t, rfl⟩, q⟩
end
end Mn
end
section
set_option Elab.async false
set_option linter.all false
set_option maxRecDepth 100000
set_option maxHeartbeats 2000000
namespace Mn
open PySem PySem.Spec PyProof.Rows L2
theorem range_getD (ns : List Int) : (List.range ns.length).map (fun i => ns.getD i 0) = ns := by
  apply List.ext_getElem?
  intro j
  by_cases hj : j < ns.length
  · simp [hj]
  · rw [List.getElem?_eq_none (by simpa using hj), List.getElem?_eq_none (by simpa using hj)]
theorem firstMet_all (ns : List Int) : firstMet (fun i => ns.getD i 0) ns.length = ns.foldl step_dedup [] := by
  unfold firstMet
  rw [range_getD]
theorem dedup_nodup : ∀ (ns acc : List Int), acc.Nodup → (ns.foldl step_dedup acc).Nodup
  | [], _, h => h
  | n :: ns, acc, h => by
    refine dedup_nodup ns _ ?_
    unfold step_dedup
    split
    · exact h
    · rename_i z
      rw [List.nodup_append]
      refine ⟨h, by simp, fun a ha b hb e => z ?_⟩
      rw [List.any_eq_true]
      refine ⟨a, ha, ?_⟩
      rw [e]
      exact beq_iff_eq.mpr (by simpa using hb)
theorem dedup_mem (k : Int) : ∀ (ns acc : List Int), k ∈ ns.foldl step_dedup acc ↔ k ∈ acc ∨ k ∈ ns
  | [], acc => by simp
  | n :: ns, acc => by
    rw [List.foldl_cons, dedup_mem k ns]
    unfold step_dedup
    split
    · rename_i z
      obtain ⟨x, hx, e⟩ := List.any_eq_true.mp z
      have e' : x = n := eq_of_beq e
      subst e'
      constructor
      · rintro (h | h)
        · exact .inl h
        · exact .inr (List.mem_cons_of_mem _ h)
      · rintro (h | h)
        · exact .inl h
        · rcases List.mem_cons.mp h with e | e
          · rw [e]; exact .inl hx
          · exact .inr e
    · rw [List.mem_append, List.mem_singleton, List.mem_cons]
      constructor
      · rintro ((h | h) | h)
        · exact .inl h
        · exact .inr (.inl h)
        · exact .inr (.inr h)
      · rintro (h | h | h)
        · exact .inl (.inl h)
        · exact .inl (.inr h)
        · exact .inr h
theorem setR_card {w : World} {h : Heap} {a : Addr} {ns : List Int} {c : Nat} (R : SetR w h a (fun j => decide (j ∈ ns)) c) : c = (ns.foldl step_dedup []).length := by
  obtain ⟨o, es, ep, t, _, _, _, _, nd, mem, _, _, hn, _⟩ := R
  rw [← hn]
  have p : (es.toList.map L2.keyOf).Perm (ns.foldl step_dedup []) := by
    refine (List.perm_ext_iff_of_nodup nd (dedup_nodup ns [] (by simp))).mpr fun k => ?_
    rw [← mem k, dedup_mem]
    simp
  have z := p.length_eq
  rw [List.length_map, Array.length_toList] at z
  exact z
section
variable {X : Cx}
def tLenW (K : PySem.W.Frag) (ta : TE) : TE := fun σ H Q => ta σ H fun x H1 => ∃ l, x = .ref l ∧ ((∃ ns : List Int, (SqL K H1 l (ns.map V.int) ∨ SqT K H1 l (ns.map V.int)) ∧ ns.length ≤ 4000 ∧ Q (.int ((ns.foldl step_dedup []).length : Nat)) H1) ∨
  ∃ ss : List Str, (SqL K H1 l (ss.map V.str) ∨ SqT K H1 l (ss.map V.str)) ∧ ss.length ≤ 1 ∧ Q (.int (ss.length : Nat)) H1)
theorem pe_lenSetW {a : Expr} {ta : TE} {p p2 q pos : Pos} (hc : X.calm = true) (hg : Gl X "len") (hm : X.mg "len" = none) (hg2 : Gl X "set") (hm2 : X.mg "set" = none) (ha : PE X a ta)
    (na : starEach [a] X.env = (false, eval a X.env) :: starEach [] X.env := by rfl) : PE X (.Call (.Name "len" p) [.Call (.Name "set" p2) [a] [] q] [] pos) (tLenW X.K ta) := by
  refine ⟨fun pins s σ H Q I h => ?_⟩
  refine Call_ (ld_blt I hg hm boot_len ?_)
  refine PyProof.Rows.callWith_builtin1 (PyProof.Rows.args_cons ?_ rfl) rfl rfl
  refine Call_ (ld_blt I hg2 hm2 boot_set ?_)
  refine PyProof.Rows.callWith_type1 (PyProof.Rows.args_cons (thn (ha.run pins s σ H _ I h) fun v s1 ⟨x, H1, I1, r1, q1⟩ => PyProof.Rows.args_nil ?_) na) na rfl
  obtain ⟨l, rfl, q1⟩ := q1
  cases r1
  rcases q1 with ⟨ns, hq, hl, q1⟩ | ⟨ss, hq, h1, q1⟩
  · rcases hq with hq | hq
    · obtain ⟨its, r, pl, hz⟩ := I1.list hq
      have hlen : its.toArray.size = ns.length := by rw [List.size_toArray, ← r.length, List.length_map]
      refine call_set_list (I1.ok.hd hc) pl.isList (ns := ns) (by simpa using r.ints) (by rw [hlen]; unfold scanBound; omega) fun h' tk hS hk => ?_
      refine PyProof.Rows.args_nil ?_
      rw [hlen, firstMet_all] at hS
      obtain ⟨o, es, ep, t, ho, hex, hd, _, _, _, hf, hn⟩ := hS
      have I2 : Inv X pins σ H1 { s1 with heap := h', toks := tk } := I1.kept fun b o e => hk b o (Heap.lt_size e) e
      have hle : (ns.foldl step_dedup []).length ≤ 4000 := by
        have := length_foldl_step_dedup_le ns []
        simp only [List.length_nil] at this
        omega
      exact call_len_set ho hex hd hf (by rw [hn]; omega) ⟨.int _, H1, I2.tok _, ⟨_, by rw [hn]⟩, q1⟩
    · obtain ⟨its, r, pl, hz⟩ := I1.tuple hq
      refine call_set_tupI ns (I1.ok.hd hc) pl (by simpa using r.ints) (by unfold scanBound; omega) fun h' tk c R hcl hk => ?_
      refine PyProof.Rows.args_nil ?_
      have hcc := setR_card R
      obtain ⟨o, es, ep, t, ho, hex, hd, _, _, _, _, hf, hn, _⟩ := R
      have I2 : Inv X pins σ H1 { s1 with heap := h', toks := tk } := I1.kept hk
      exact call_len_set ho hex hd hf (by rw [hn]; omega) ⟨.int _, H1, I2.tok _, ⟨_, by rw [hn]⟩, by rw [hcc]; exact q1⟩
  · have fin : ∀ (its : List Value), Vals (ss.map V.str) its → ∀ (h' : Heap) (tk : Nat), h'.SetOf (PySem.strKind X.prog X.w) s1.heap.objs.size (fun k' => (ss.take its.toArray.size).any (· == k')) its.toArray.size →
        (∀ b o, b < s1.heap.objs.size → s1.heap.get? b = some o → h'.get? b = some o) →
        wpAny (model X.prog X.w) X.A (spliced (backTo pos (starEach [] X.env))) (fun vs s₂ => wpAny (model X.prog X.w) X.A (call (.builtin "len") (Value.ref s1.heap.objs.size :: vs)) (EP X pins σ Q) X.xe s₂) X.xe { s1 with heap := h', toks := tk } := fun its r h' tk hS hk => by
      refine PyProof.Rows.args_nil ?_
      have hl : its.toArray.size = ss.length := by rw [List.size_toArray, ← r.length, List.length_map]
      rw [hl] at hS
      obtain ⟨o, es, ep, t, ho, hex, hd, _, _, _, hf, hn⟩ := hS
      have I2 : Inv X pins σ H1 { s1 with heap := h', toks := tk } := I1.kept fun b o e => hk b o (Heap.lt_size e) e
      refine call_len_set ho hex hd hf (by rw [hn] <;> omega) ⟨.int ss.length, H1, I2.tok _, ⟨_, by rw [hn]⟩, q1⟩
    rcases hq with hq | hq
    · obtain ⟨its, r, pl, hz⟩ := I1.list hq
      exact SS.call_set_listS (I1.ok.hd hc) pl.isList (by simpa using strsAre_of r) h1 fun h' tk hS hk => fin its r h' tk hS hk
    · obtain ⟨its, r, pl, hz⟩ := I1.tuple hq
      exact SS.call_set_tupleS (I1.ok.hd hc) pl (by simpa using strsAre_of r) h1 fun h' tk hS hk => fin its r h' tk hS hk
end
section
variable {prog : Program} {w : World} {A : Around} {E : Value → Shared → Prop} {s : Shared}
theorem rev_extend {R : Result → Shared → Prop} {it l S : Addr} {items : Array Value} (hh : A.handled = none) (hit : s.heap.IsRevIter it l ((items.size : Int) - 1)) (hl : s.heap.IsList l items) (hne : l ≠ it) (hn : items.size ≤ sizeLine) (hSi : S ≠ it) (hSl : S ≠ l) (c₀ : Nat)
    (hS : s.heap.get? S = some { cls := .type "list", data := .seq #[] c₀ })
    (hR : ∀ h' tk acc' c', (∀ b o, b ≠ it → b ≠ S → s.heap.get? b = some o → h'.get? b = some o) → h'.get? S = some { cls := .type "list", dict := none, data := .seq acc' c', slots := #[] } → ItemsOf (fun i v => items[items.size - 1 - i]? = some v) acc' items.size → R (.ok (.ret .none)) { s with heap := h', toks := tk }) :
    wpAny (model prog w) A.in1 (Builtin.List.listExtendWith (.ref S) (.ref it) .none)
      (fun fin s' => match fin with | .done f => R (.ok f) s' | .again c' => c'.quiet = true ∧ codeAny (model prog w) A c' R s') (fun e s' => R (.error e) s') s := by
  have W := (Walks.listRev (prog := prog) (w := w) (A := A.in1) hh it l hne items).toS
  have hSf : S ∉ [it, l] := by simp only [List.mem_cons, List.not_mem_nil, or_false, not_or]; exact ⟨hSi, hSl⟩
  have hT : s.TypeIs (.ref it) "list_reverseiterator" := hit.typeIs
  have h1 : Builtin.List.listSameRef (.ref S) (.ref it) = false := by simp [Builtin.List.listSameRef, hSi]
  unfold Builtin.List.listExtendWith
  refine wpAny_bind (wpAny_typeOf hT ?_)
  rw [if_neg (by rw [h1]; decide)]
  refine wpAny_bind (wpAny_pyIter_revIter hit ?_)
  refine wpAny_bind (wpAny_holding ?_)
  unfold Builtin.List.listLengthHint
  refine wpAny_bind (wpAny_specialOf hT RT.nolen_lri ?_)
  show wpAny _ A.in1 (specialOf (Value.ref it) (Str.ofString "__length_hint__") >>= _) _ _ _
  refine wpAny_bind (wpAny_specialOf hT RT.hint_lri ?_)
  generalize hid : ("list_reverseiterator.__length_hint__" : String) = id0
  wp_delta
  rw [show splitId id0 = some ("list_reverseiterator", "__length_hint__") from by subst hid; decide +kernel]
  subst hid
  refine wpAny_bind (wpAny_isInstance (b := true) hT (by rw [isSubtype_type]; kernel_rfl) ?_)
  refine wpAny_pure ?_
  rw [if_neg (by decide)]
  have e0 : ((items.size : Nat) : Int) - 1 - ((0 : Nat) : Int) = (items.size : Int) - 1 := by omega
  refine wpAny_pure ⟨plainId_quiet F.plain_extend_loop _, codeAny_extend_loopS W hn _ hSf _ items.size 0 _ _ _ rfl (Nat.zero_le _) ⟨Nat.zero_le _, by rw [e0]; exact hit, hl⟩ hS (ItemsOf.nil _) fun s' acc' c' hm hS' hacc => ?_⟩
  rw [Moved.eq_with hm]
  refine hR s'.heap s'.toks acc' c' (fun b o hb hb2 e => hm.heap b o (fun hmem => ?_) e) hS' hacc
  rcases List.mem_cons.mp hmem with e' | hmem
  · exact hb2 e'
  · exact hb (List.mem_singleton.mp hmem)
theorem call_list_rev {it l : Addr} {items : Array Value} {Q : Value → Shared → Prop} (hh : A.handled = none) (hit : s.heap.IsRevIter it l ((items.size : Int) - 1)) (hl : s.heap.IsList l items) (hne : l ≠ it) (hn : items.size ≤ sizeLine)
    (hQ : ∀ h' tk acc' c', (∀ b o, b ≠ it → s.heap.get? b = some o → h'.get? b = some o) → h'.get? s.heap.objs.size = some { cls := .type "list", dict := none, data := .seq acc' c', slots := #[] } → ItemsOf (fun i v => items[items.size - 1 - i]? = some v) acc' items.size → Q (.ref s.heap.objs.size) { s with heap := h', toks := tk }) :
    wpAny (model prog w) A (call (.type "list") [.ref it]) Q E s := by
  refine callType_codes (Q₁ := fun obj s₁ => obj = .ref s.heap.objs.size ∧ s₁ = { s with heap := s.heap.push { cls := .type "list", data := .seq #[] } }) PySem.F.called_list (PySem.F.typeCall_list_1 _) PySem.F.entry_list_init
    (code_list_new _ ⟨rfl, rfl⟩) fun obj s₁ h₁ => ?_
  obtain ⟨rfl, rfl⟩ := h₁
  have hS : (s.heap.push { cls := .type "list", data := .seq #[] }).get? s.heap.objs.size = some { cls := .type "list", data := .seq #[] } := Heap.get?_push_size _ rfl
  obtain ⟨oi, hoi, _⟩ := id hit
  obtain ⟨ol, hol, _⟩ := id hl
  have hSi : s.heap.objs.size ≠ it := Nat.ne_of_gt (Heap.lt_size hoi)
  have hSl : s.heap.objs.size ≠ l := Nat.ne_of_gt (Heap.lt_size hol)
  have hit1 : (s.heap.push { cls := .type "list", data := .seq #[] }).IsRevIter it l ((items.size : Int) - 1) := hit.at fun o e => Heap.get?_push_of_some _ e
  have hl1 : (s.heap.push { cls := .type "list", data := .seq #[] }).IsList l items := hl.push _
  refine ⟨⟨_, hS, rfl⟩, PySem.F.args_list_init_2 _ _, ?_⟩
  show wpAny _ _ (do let old ← Builtin.List.listItems (.ref s.heap.objs.size); Builtin.List.listUpdate (.ref s.heap.objs.size) (fun _ => #[]); letGo old.toList.reverse; Builtin.List.listExtendWith (.ref s.heap.objs.size) (.ref it) .none) _ _ _
  refine wpAny_bind ?_
  unfold Builtin.List.listItems
  refine wpAny_bind (wpAny_seqItems hS rfl (wpAny_pure ?_))
  show wpAny _ _ (updateSeq s.heap.objs.size (fun _ => #[]) >>= fun _ => letGo (#[] : Array Value).toList.reverse >>= fun _ => Builtin.List.listExtendWith (.ref s.heap.objs.size) (.ref it) .none) _ _ _
  refine wpAny_bind (wpAny_updateSeq hS rfl ?_)
  have hS₂ := Heap.get?_update_self (Obj.mapSeq (fun _ => (#[] : Array Value))) hS rfl
  have oth : ∀ b o, b ≠ s.heap.objs.size → (s.heap.push { cls := .type "list", data := .seq #[] }).get? b = some o → ((s.heap.push { cls := .type "list", data := .seq #[] }).update s.heap.objs.size (Obj.mapSeq (fun _ => (#[] : Array Value)))).get? b = some o :=
    fun b o hb e => (Heap.get?_update_other _ _ (Ne.symm hb)).trans e
  refine wpAny_bind (wpAny_letGo ?_)
  have hl2 : ((s.heap.push { cls := .type "list", data := .seq #[] }).update s.heap.objs.size (Obj.mapSeq (fun _ => (#[] : Array Value)))).IsList l items := by
    obtain ⟨o, e, r⟩ := hl1
    exact ⟨o, oth l o hSl.symm e, r⟩
  refine rev_extend (A := A.in1) hh (hit1.at fun o e => oth it o hSi.symm e) hl2 hne hn hSi hSl _ hS₂ (fun h' tk acc' c' hk hS' hacc => ?_)
  exact ⟨rfl, hQ h' tk acc' c' (fun b o hb e => hk b o hb (Nat.ne_of_lt (Heap.lt_size e)) (oth b o (Nat.ne_of_lt (Heap.lt_size e)) (Heap.get?_push_of_some _ e))) hS' hacc⟩
end
section
variable {X : Cx}
def tListRev (K : PySem.W.Frag) (te : TE) : TE := fun σ H Q => te σ H fun v H1 => ∃ (a : Addr) (xs : List V), v = .ref a ∧ SqL K H1 a xs ∧ ∀ q, H1 q = none → Q (.ref q) (upd H1 q (.lst xs.reverse))
theorem pe_listRev {e : Expr} {te : TE} {p p2 pos pos2 : Pos} (hc : X.calm = true) (hg : Gl X "list") (hm : X.mg "list" = none) (hg2 : Gl X "reversed") (hm2 : X.mg "reversed" = none) (he : PE X e te)
    (hs : starEach [e] X.env = (false, eval e X.env) :: starEach [] X.env := by rfl)
    (hs2 : starEach [.Call (.Name "reversed" p2) [e] [] pos2] X.env = (false, eval (.Call (.Name "reversed" p2) [e] [] pos2) X.env) :: starEach [] X.env := by rfl) :
    PE X (.Call (.Name "list" p) [.Call (.Name "reversed" p2) [e] [] pos2] [] pos) (tListRev X.K te) := by
  refine ⟨fun pins s σ H Q I h => ?_⟩
  refine Call_ (ld_blt I hg hm boot_list (PyProof.Rows.callWith_type1 (args_cons (Call_ (ld_blt I hg2 hm2 PyProof.Rows.boot_reversed (PyProof.Rows.callWith_type1 (args_cons (thn (he.run pins s σ H _ I h) fun u s1 ⟨v, H1, I1, r1, q1⟩ => args_nil ?_) hs) hs rfl))) hs2) hs2 rfl))
  obtain ⟨a, xs, ev, hq, q⟩ := q1
  subst ev
  obtain rfl : u = Value.ref a := r1
  obtain ⟨its, rv, p', hz⟩ := I1.list hq
  refine call_reversed_list p'.isList (args_nil ?_)
  have k0 : ∀ b o, s1.heap.get? b = some o → (s1.heap.push (revObj a ((its.toArray.size : Int) - 1))).get? b = some o := fun b o e => Heap.get?_push_of_some _ e
  have I2 : Inv X pins σ H1 { s1 with heap := s1.heap.push (revObj a ((its.toArray.size : Int) - 1)) } := I1.kept (t' := s1.toks) k0
  obtain ⟨f0, f1, f2, f3, f4, f5⟩ := I1.fpOk (H' := H1) (b := s1.heap.objs.size) (Nat.le_refl _) (I1.hok.fresh (Nat.le_refl _))
  have hl := p'.isList
  obtain ⟨ol, hol, _⟩ := id hl
  have hne : a ≠ s1.heap.objs.size := Nat.ne_of_lt (Heap.lt_size hol)
  have hn : its.toArray.size ≤ sizeLine := by rw [List.size_toArray, ← rv.length]; exact hz
  refine call_list_rev (s := { s1 with heap := s1.heap.push (revObj a ((its.toArray.size : Int) - 1)) }) (I1.ok.hd hc) ⟨_, Heap.get?_push_size _ rfl, rfl, rfl⟩ (hl.push _) hne hn fun h' tk acc c' hk hS' hi => ?_
  have I3 : Inv X pins σ H1 { s1 with heap := h', toks := tk } := I2.turned (t' := tk) (fun b o hb e => hk b o hb e) f0 f1 f3 f4 f5
  have fresh : H1 (s1.heap.push (revObj a ((its.toArray.size : Int) - 1))).objs.size = none := I2.hok.fresh (Nat.le_refl _)
  refine ⟨.ref _, upd H1 (s1.heap.push (revObj a ((its.toArray.size : Int) - 1))).objs.size (.lst xs.reverse), ?_, rfl, q _ fresh⟩
  have new : ObjOk X.prog X.w (upd H1 (s1.heap.push (revObj a ((its.toArray.size : Int) - 1))).objs.size (.lst xs.reverse)) h' (s1.heap.push (revObj a ((its.toArray.size : Int) - 1))).objs.size (.lst xs.reverse) :=
    ⟨by rw [List.length_reverse]; exact hz, acc.toList, c', RT.vals_rev rv hi, by rw [Array.toArray_toList]; exact hS'⟩
  exact I2.turnedNew (ch := [s1.heap.objs.size]) (fun b o hb e => hk b o (fun z => hb (by rw [z]; exact List.mem_singleton.mpr rfl)) e) (fun b hb => by rw [List.mem_singleton.mp hb]; exact I1.fpOk (Nat.le_refl _) (I1.hok.fresh (Nat.le_refl _))) (Nat.le_refl _) new
end
end Mn
end
section
set_option Elab.async false
set_option linter.all false
set_option maxRecDepth 100000
set_option maxHeartbeats 2000000
namespace Mn
open PySem PySem.Spec PyProof.Rows L2
variable {G : Env} {ρ ρ' : Nat → Addr} {n n' : Nat} {H H' : Hp} {h h' : Hm}
def biV : BI → Option Value
  | .len => some (.builtin "len") | .abs => some (.builtin "abs") | .min => some (.builtin "min") | .max => some (.builtin "max") | .sum => some (.builtin "sum") | .any => some (.builtin "any") | .all => some (.builtin "all") | .sorted => some (.builtin "sorted")
  | .int => some (.type "int") | .str => some (.type "str") | .list => some (.type "list") | .tuple => some (.type "tuple") | .dict => some (.type "dict")
  | _ => none
theorem RVs.one {x : W} {vs : List V} (r : RVs G ρ n H [x] vs) : ∃ v, vs = [v] ∧ RV G ρ n H x v := by
  obtain ⟨y, q, rfl, h2, h3⟩ : ∃ y r, vs = y :: r ∧ RV G ρ n H x y ∧ RVs G ρ n H [] r := r
  rw [show q = [] from h3]
  exact ⟨y, rfl, h2⟩
theorem RVs.two {x y : W} {vs : List V} (r : RVs G ρ n H [x, y] vs) : ∃ v u, vs = [v, u] ∧ RV G ρ n H x v ∧ RV G ρ n H y u := by
  obtain ⟨z, q, rfl, h2, h3⟩ : ∃ z r, vs = z :: r ∧ RV G ρ n H x z ∧ RVs G ρ n H [y] r := r
  obtain ⟨u, rfl, h4⟩ := h3.one
  exact ⟨z, u, rfl, h2, h4⟩
theorem RKV.mapK {xs : List (Key × W)} {ys : List (Key × V)} (r : RKV G id ρ n H xs ys) : RVs G ρ n H (xs.map fun kv => wOf kv.1) (ys.map fun kv => kV kv.1) := by
  induction xs generalizing ys with
  | nil => cases (show ys = [] from r); exact rfl
  | cons p xs ih =>
    obtain ⟨k, w⟩ := p
    obtain ⟨v, q', rfl, h2, h3⟩ : ∃ v q', ys = (id k, v) :: q' ∧ RV G ρ n H w v ∧ RKV G id ρ n H xs q' := r
    refine ⟨_, _, rfl, ?_, ih h3⟩
    cases k <;> exact rfl
theorem keys_RVs : ∀ ks : List Key, RVs G ρ n H (ks.map wOf) (ks.map kV)
  | [] => rfl
  | k :: ks => ⟨_, _, rfl, by cases k <;> exact rfl, keys_RVs ks⟩
theorem RKV.mapT {xs : List (List Key × W)} {ys : List (List Key × V)} {bs : List Addr} (r : RKV G id ρ n H xs ys) (k : IsKeys H ys bs) : RVs G ρ n H (xs.map fun kv => .tup (kv.1.map wOf)) (bs.map V.ref) := by
  induction xs generalizing ys bs with
  | nil =>
    cases (show ys = [] from r)
    cases k
    exact rfl
  | cons p xs ih =>
    obtain ⟨k', w⟩ := p
    obtain ⟨v, q', rfl, h2, h3⟩ : ∃ v q', ys = (id k', v) :: q' ∧ RV G ρ n H w v ∧ RKV G id ρ n H xs q' := r
    cases k with
    | cons hb t => exact ⟨_, _, rfl, ⟨_, _, rfl, hb, keys_RVs k'⟩, ih h3 t⟩
section
variable {X : Cx} {Q : VK} {E : XK}
theorem zip_pair {ys : List V} : ∀ {xs : List W} {ds : List PyData}, RVs G ρ n H xs ys → xs.length = ds.length →
    PySem.W.EachIs (fun (a : W × PyData) (b : V × PyData) => RV G ρ n H a.1 b.1 ∧ a.2 = b.2) (xs.zip ds) (ys.zip ds) := by
  induction ys with
  | nil =>
    intro xs ds r e
    cases xs with
    | nil => exact .nil
    | cons x xs => obtain ⟨y, q, h, _⟩ := r; cases h
  | cons y ys ih =>
    intro xs ds r e
    cases xs with
    | nil => cases (show y :: ys = [] from r)
    | cons x xs =>
      obtain ⟨y', q, hq, h2, h3⟩ := r
      cases hq
      cases ds with
      | nil => cases e
      | cons d ds => exact .cons ⟨h2, rfl⟩ (ih h3 (Nat.succ.inj e))
theorem pair_out : ∀ {as : List (W × PyData)} {bs : List (V × PyData)}, PySem.W.EachIs (fun (a : W × PyData) (b : V × PyData) => RV G ρ n H a.1 b.1 ∧ a.2 = b.2) as bs → RVs G ρ n H (as.map (·.1)) (bs.map (·.1))
  | _, _, .nil => rfl
  | _, _, .cons h t => ⟨_, _, rfl, h.1, pair_out t⟩
theorem dats_len : ∀ (m : Nat) (xs : List W) (ds : List PyData), dats m h xs = some ds → xs.length = ds.length
  | 0, _, _, e => by simp [dats] at e
  | m + 1, [], ds, e => by
    have e' : some ([] : List PyData) = some ds := e
    cases e'
    rfl
  | m + 1, x :: xs, ds, e => by
    have e' : (match dat m h x, dats m h xs with
      | some d, some ds => some (d :: ds)
      | _, _ => none) = some ds := e
    cases q1 : dat m h x with
    | none => simp [q1] at e'
    | some d =>
      cases q2 : dats m h xs with
      | none => simp [q1, q2] at e'
      | some es =>
        simp [q1, q2] at e'
        subst e'
        rw [List.length_cons, List.length_cons, dats_len m xs es q2]
theorem sortW_ok (S : Sim G ρ h H) {xs ys : List W} {vs : List V} (r : RVs G ρ h.n H xs vs) (e : sortW h xs = some ys) :
    ∃ ds, DpAll G.K H vs ds ∧ sortable ds = true ∧ RVs G ρ h.n H ys ((sortD (PySem.W.dataLe false fun b : V × PyData => b.2) (vs.zip ds)).map (·.1)) := by
  unfold sortW at e
  split at e
  · rename_i ds hd
    split at e
    · rename_i hs
      rw [Bool.and_eq_true] at hs
      cases e
      refine ⟨ds, dats_ok S _ _ _ _ r hd, hs.1, ?_⟩
      exact pair_out (sortD_pair (le := PySem.W.dataLe false id) (ka := fun p : W × PyData => p.2) (kb := fun p : V × PyData => p.2) (zip_pair r (dats_len _ _ _ hd)))
    · cases e
  · cases e
theorem lenW_ok (S : Sim G ρ h H) {x : W} {v : V} {k : Nat} (r : RV G ρ h.n H x v) (e : lenW x h = some k) (q : Q (.int k) H) (hK : X.K = G.K) : wC X (.builtin "len") [v] H Q := by
  have seq : ∀ {xs : List W}, seqW x h = some xs → xs.length = k → wC X (.builtin "len") [v] H Q := fun {xs} hs hk => by
    obtain ⟨t, ys, rfl, h2, h3⟩ := seqW_ok S r hs
    refine CallR.to call_len_seq ⟨t, ys, rfl, ?_, ?_⟩
    · rw [hK]; exact h2
    · rw [← h3.length, hk]; exact q
  cases x with
  | str s =>
    have e' : (if s.length ≤ line then some s.length else none) = some k := e
    split at e'
    · rename_i hz
      cases e'
      rw [r.str]
      exact CallR.to call_len_str ⟨_, rfl, by rw [← line_eq]; exact hz, q⟩
    · cases e'
  | ref a =>
    obtain ⟨ha, rfl⟩ := r.ref
    cases q1 : h.g a with
    | none => simp [lenW, q1] at e
    | some o =>
      cases o with
      | lst xs =>
        simp only [lenW, q1] at e
        exact seq (xs := xs) (by simp [seqW, rdL, q1]) (by cases e; rfl)
      | dK kvs =>
        simp only [lenW, q1] at e
        cases e
        obtain ⟨ys, h1, h2, _⟩ := S.dK ha q1
        exact CallR.to cr_lenD ⟨_, ys, rfl, h1, by rw [← h2.length]; exact q⟩
      | dT kvs =>
        simp only [lenW, q1] at e
        cases e
        obtain ⟨ys, h1, h2, _⟩ := S.dT ha q1
        exact CallR.to cr_lenT ⟨_, ys, rfl, h1, by rw [← h2.length]; exact q⟩
      | ins c fs => simp [lenW, q1] at e
  | tup xs =>
    have e' : some xs.length = some k := e
    cases e'
    exact seq (xs := xs) rfl rfl
  | ktup xs =>
    have e' : some xs.length = some k := e
    cases e'
    exact seq (xs := xs) rfl rfl
  | klst xs =>
    have e' : some xs.length = some k := e
    cases e'
    exact seq (xs := xs) rfl rfl
  | _ => simp [lenW, seqW, rdL] at e
end
end Mn
end
section
set_option Elab.async false
set_option linter.all false
set_option maxRecDepth 100000
set_option maxHeartbeats 4000000
namespace Mn
open PySem PySem.Spec PyProof.Rows L2
variable {G : Env} {ρ ρ' : Nat → Addr} {n n' : Nat} {H H' : Hp} {h h' : Hm}
section
variable {X : Cx} {Q : VK} {E : XK}
theorem bi_ok (hK : X.K = G.K) (hc : X.calm = true) (hu : X.A.units + 70 < cLine) (S : Sim G ρ h H) {f : BI} {F : Value} {ws : List W} {vs : List V} (hf : biV f = some F) (r : RVs G ρ h.n H ws vs)
    (A : Ans G ρ h H (bi f ws h) (PQ G Q) E) : wC X F vs H Q := by
  unfold bi at A
  split at A
  · -- len
    rename_i x
    cases hf
    obtain ⟨v, rfl, r1⟩ := r.one
    split at A
    · rename_i k e
      exact lenW_ok S r1 e (A.val S rfl) hK
    · exact A.elim
  · -- abs
    cases hf
    obtain ⟨v, rfl, r1⟩ := r.one
    rw [r1.int]
    exact CallR.to call_abs ⟨_, rfl, A.val S rfl⟩
  · -- min2
    cases hf
    obtain ⟨v, u, rfl, r1, r2⟩ := r.two
    rw [r1.int, r2.int]
    exact CallR.to (call_min2 hc) ⟨_, _, rfl, A.val S rfl⟩
  · -- max2
    cases hf
    obtain ⟨v, u, rfl, r1, r2⟩ := r.two
    rw [r1.int, r2.int]
    exact CallR.to (call_max2 hc) ⟨_, _, rfl, A.val S rfl⟩
  · -- min
    cases hf
    obtain ⟨v, rfl, r1⟩ := r.one
    split at A
    · rename_i i is e
      obtain ⟨xs, e1, e2⟩ := Option.bind_eq_some_iff.mp e
      obtain ⟨t, ys, rfl, h2, h3⟩ := seqW_ok S r1 e1
      rw [RVs.ints e2 h3] at h2
      exact CallR.to (cr_minW hc (by omega)) ⟨t, i, is, rfl, by rw [hK]; exact h2, A.val S rfl⟩
    · exact A.elim
  · -- max
    cases hf
    obtain ⟨v, rfl, r1⟩ := r.one
    split at A
    · rename_i i is e
      obtain ⟨xs, e1, e2⟩ := Option.bind_eq_some_iff.mp e
      obtain ⟨t, ys, rfl, h2, h3⟩ := seqW_ok S r1 e1
      rw [RVs.ints e2 h3] at h2
      exact CallR.to (cr_maxW hc (by omega)) ⟨t, i, is, rfl, by rw [hK]; exact h2, A.val S rfl⟩
    · exact A.elim
  · -- sum
    cases hf
    obtain ⟨v, rfl, r1⟩ := r.one
    split at A
    · rename_i is e
      obtain ⟨xs, e1, e2⟩ := Option.bind_eq_some_iff.mp e
      obtain ⟨t, ys, rfl, h2, h3⟩ := rdL_ok S r1 e1
      rw [RVs.ints e2 h3] at h2
      exact CallR.to (cr_sum hc) ⟨t, is, rfl, by rw [hK]; exact h2, A.val S rfl⟩
    · exact A.elim
  · -- any
    cases hf
    obtain ⟨v, rfl, r1⟩ := r.one
    split at A
    · rename_i is e
      obtain ⟨xs, e1, e2⟩ := Option.bind_eq_some_iff.mp e
      obtain ⟨t, ys, rfl, h2, h3⟩ := rdL_ok S r1 e1
      rw [RVs.bls e2 h3] at h2
      exact CallR.to (cr_any hc) ⟨t, is, rfl, by rw [hK]; exact h2, A.val S rfl⟩
    · exact A.elim
  · -- all
    cases hf
    obtain ⟨v, rfl, r1⟩ := r.one
    split at A
    · rename_i is e
      obtain ⟨xs, e1, e2⟩ := Option.bind_eq_some_iff.mp e
      obtain ⟨t, ys, rfl, h2, h3⟩ := rdL_ok S r1 e1
      rw [RVs.bls e2 h3] at h2
      exact CallR.to (cr_all hc) ⟨t, is, rfl, by rw [hK]; exact h2, A.val S rfl⟩
    · exact A.elim
  · -- int int
    cases hf
    obtain ⟨v, rfl, r1⟩ := r.one
    rw [r1.int]
    exact CallR.to call_int1 (.inl ⟨_, rfl, A.val S rfl⟩)
  · cases hf
    obtain ⟨v, rfl, r1⟩ := r.one
    rw [r1.bl]
    exact CallR.to call_int1 (.inr ⟨_, rfl, A.val S rfl⟩)
  · cases hf
    obtain ⟨v, rfl, r1⟩ := r.one
    rw [r1.str]
    split at A
    · rename_i m e
      split at A
      · rename_i hl
        exact CallR.to call_int_str ⟨_, m, rfl, e, hl, A.val S rfl⟩
      · exact A.elim
    · exact A.elim
  · cases hf
    obtain ⟨v, rfl, r1⟩ := r.one
    rw [r1.int]
    split at A
    · rename_i hl
      exact CallR.to call_str_int ⟨_, rfl, hl, A.val S rfl⟩
    · exact A.elim
  · cases hf
    obtain ⟨v, rfl, r1⟩ := r.one
    rw [r1.str]
    exact CallR.to SkE.call_str_str ⟨_, rfl, A.val S rfl⟩
  · -- list
    rename_i x
    cases hf
    obtain ⟨v, rfl, r1⟩ := r.one
    split at A
    · rename_i a
      obtain ⟨ha, rfl⟩ := r1.ref
      split at A
      · rename_i xs e
        obtain ⟨ys, h1, h2⟩ := S.lst ha e
        exact CallR.to call_list_of ⟨_, ys, rfl, .inl (SqL.of h1), fun p hp => A.lst S h2 hp⟩
      · rename_i kvs e
        obtain ⟨ys, h1, h2, _⟩ := S.dK ha e
        exact CallR.to (call_listD hc) ⟨_, ys, rfl, h1, fun p hp => A.lst S h2.mapK hp⟩
      · rename_i kvs e
        obtain ⟨ys, h1, h2, _⟩ := S.dT ha e
        exact CallR.to (call_list_dT hc) ⟨_, ys, rfl, h1, fun p bs hp hk => A.lst S (h2.mapT hk) hp⟩
      · exact A.elim
    · split at A
      · rename_i xs e
        obtain ⟨t, ys, rfl, h2, h3⟩ := seqW_ok S r1 e
        exact CallR.to call_list_of ⟨_, ys, rfl, by rw [hK]; exact h2, fun p hp => A.lst S h3 hp⟩
      · exact A.elim
  · -- tuple
    cases hf
    obtain ⟨v, rfl, r1⟩ := r.one
    split at A
    · obtain ⟨t, ys, rfl, h2, h3⟩ := r1.tup
      exact CallR.to call_tuple_of ⟨_, ys, rfl, .inr ⟨SqT.of h2, A.val S r1⟩⟩
    · obtain ⟨t, ys, rfl, h2, h3⟩ := r1.ktup
      exact CallR.to call_tuple_of ⟨_, ys, rfl, .inr ⟨by rw [hK]; exact h2, A.val S r1⟩⟩
    · split at A
      · rename_i xs e
        obtain ⟨t, ys, rfl, h2, h3⟩ := rdL_ok S r1 e
        exact CallR.to call_tuple_of ⟨_, ys, rfl, .inl ⟨by rw [hK]; exact h2, fun p hp => A.tup S h3 hp⟩⟩
      · exact A.elim
  · -- sorted
    cases hf
    obtain ⟨v, rfl, r1⟩ := r.one
    split at A
    · rename_i ys e
      obtain ⟨xs, e1, e2⟩ := Option.bind_eq_some_iff.mp e
      obtain ⟨t, us, rfl, h2, h3⟩ := rdL_ok S r1 e1
      obtain ⟨ds, h4, h5, h6⟩ := sortW_ok S h3 e2
      exact CallR.to (cr_sortD hu) ⟨t, us, ds, rfl, by rw [hK]; exact h2, by rw [hK]; exact h4, h5, fun p hp => A.lst S h6 hp⟩
    · exact A.elim
  · cases hf
  · cases hf
  · cases hf
  · -- dict
    rename_i a
    cases hf
    obtain ⟨v, rfl, r1⟩ := r.one
    obtain ⟨ha, rfl⟩ := r1.ref
    split at A
    · rename_i kvs e
      obtain ⟨ys, h1, h2, _⟩ := S.dK ha e
      exact CallR.to call_dictD ⟨_, ys, rfl, h1, fun p hp => A.dK S h2 hp⟩
    · exact A.elim
  · cases hf
  · cases hf
  · cases hf
  · cases hf
  · exact A.elim
def tyN : TyT → String
  | .non => "NoneType" | .bl => "bool" | .int => "int" | .str => "str" | .tup => "tuple" | .lst => "list" | .dK => "dict"
theorem isT_ok {K : PySem.W.Frag} (t : TyT) {T : TyT} (hT : T = .lst ∨ T = .bl ∨ T = .int ∨ T = .str) : PySem.W.kitOne K (.type (tyN t)) (.type (tyN T)) = some (isT t T) := by
  refine kit_ty ?_
  rcases hT with rfl | rfl | rfl | rfl <;> cases t <;> decide +kernel
theorem tyW_ok (S : Sim G ρ h H) {x : W} {v : V} {t : TyT} (r : RV G ρ h.n H x v) (e : tyW x h = some t) : TyX G.K H v (.type (tyN t)) := by
  cases x with
  | non => cases e; rw [r.non]; exact .base .non
  | bl b => cases e; rw [r.bl]; exact .base (.bl b)
  | int i => cases e; rw [r.int]; exact .base (.int i)
  | str s => cases e; rw [r.str]; exact .base (.str s)
  | tup xs =>
    cases e
    obtain ⟨t, ys, rfl, h2, _⟩ := r.tup
    exact .base (.tup h2)
  | ktup xs =>
    cases e
    obtain ⟨t, ys, rfl, h2, _⟩ := r.ktup
    rcases h2 with (h2 | ⟨o, h2⟩) | ⟨o, its, n, hk, hcl, _⟩
    · exact .base (.tup h2)
    · exact .fTuple h2
    · exact .kTuple hk hcl
  | klst xs =>
    cases e
    obtain ⟨t, ys, rfl, h2, _⟩ := r.klst
    rcases h2 with ⟨o, h2⟩ | ⟨o, its, n, hk, hcl, _⟩
    · exact .base (.frz h2)
    · exact .kList hk hcl
  | ref a =>
    obtain ⟨ha, rfl⟩ := r.ref
    cases q1 : h.g a with
    | none => simp [tyW, q1] at e
    | some o =>
      cases o with
      | lst xs =>
        simp only [tyW, q1] at e
        cases e
        obtain ⟨ys, h1, _⟩ := S.lst ha q1
        exact .base (.lst h1)
      | dK kvs =>
        simp only [tyW, q1] at e
        cases e
        obtain ⟨ys, h1, _⟩ := S.dK ha q1
        rcases h1 with h1 | ⟨o, h1⟩
        · exact .base (.dK h1)
        · exact .fDict h1
      | _ => simp [tyW, q1] at e
theorem is_ok (hK : X.K = G.K) (S : Sim G ρ h H) {T : TyT} (hT : T = .lst ∨ T = .bl ∨ T = .int ∨ T = .str) {x : W} {v : V} (r : RV G ρ h.n H x v) (A : Ans G ρ h H (isW T x h) (PQ G Q) E) : wC X (.builtin "isinstance") [v, .ty (tyN T)] H Q := by
  unfold isW at A
  split at A
  · rename_i t e
    exact CallR.to call_isi ⟨v, .ty (tyN T), .type (tyN t), .type (tyN T), isT t T, rfl, .ty _, by rw [hK]; exact tyW_ok S r e, isT_ok t hT, A.val S rfl⟩
  · exact A.elim
theorem lenset_ok (hK : X.K = G.K) (S : Sim G ρ h H) {x : W} {v : V} (r : RV G ρ h.n H x v) (A : Ans G ρ h H (bi .lenset [x] h) (PQ G Q) E) :
    ∃ l, v = .ref l ∧ ((∃ ns : List Int, (SqL X.K H l (ns.map V.int) ∨ SqT X.K H l (ns.map V.int)) ∧ ns.length ≤ 4000 ∧ Q (.int ((ns.foldl step_dedup []).length : Nat)) H) ∨
      ∃ ss : List Str, (SqL X.K H l (ss.map V.str) ∨ SqT X.K H l (ss.map V.str)) ∧ ss.length ≤ 1 ∧ Q (.int (ss.length : Nat)) H) := by
  unfold bi at A
  dsimp only at A
  split at A
  · rename_i xs e
    obtain ⟨t, ys, rfl, h2, h3⟩ := seqW_ok S r e
    refine ⟨t, rfl, ?_⟩
    split at A
    · rename_i is e2
      split at A
      · rename_i hl
        rw [RVs.ints e2 h3] at h2
        exact .inl ⟨is, by rw [hK]; exact h2, hl, A.val S rfl⟩
      · exact A.elim
    · split at A
      · rename_i ss e2
        split at A
        · rename_i hl
          rw [RVs.strs e2 h3] at h2
          exact .inr ⟨ss, by rw [hK]; exact h2, hl, A.val S rfl⟩
        · exact A.elim
      · exact A.elim
  · exact A.elim
theorem listrev_ok (hK : X.K = G.K) (S : Sim G ρ h H) {x : W} {v : V} (r : RV G ρ h.n H x v) (A : Ans G ρ h H (bi .listrev [x] h) (PQ G Q) E) :
    ∃ (a : Addr) (xs : List V), v = .ref a ∧ SqL X.K H a xs ∧ ∀ q, H q = none → Q (.ref q) (upd H q (.lst xs.reverse)) := by
  unfold bi at A
  dsimp only at A
  split at A
  · rename_i xs e
    obtain ⟨t, ys, rfl, h2, h3⟩ := rdL_ok S r e
    exact ⟨t, ys, rfl, by rw [hK]; exact h2, fun q hq => A.lst S h3.reverse hq⟩
  · exact A.elim
theorem items_RVs {xs : List (Key × W)} {ys : List (Key × V)} {ts : List Addr} (r : RKV G id ρ n H xs ys) (k : Paired (fun (t : Addr) (q : Key × V) => H t = some (.tup [kV q.1, q.2])) ts ys) :
    RVs G ρ n H (xs.map fun kv => .tup [wOf kv.1, kv.2]) (ts.map V.ref) := by
  induction xs generalizing ys ts with
  | nil =>
    cases (show ys = [] from r)
    cases k
    exact rfl
  | cons p xs ih =>
    obtain ⟨k', w⟩ := p
    obtain ⟨v, q', rfl, h2, h3⟩ : ∃ v q', ys = (id k', v) :: q' ∧ RV G ρ n H w v ∧ RKV G id ρ n H xs q' := r
    cases k with
    | cons hb t => exact ⟨_, _, rfl, ⟨_, _, rfl, hb, _, _, rfl, by cases k' <;> exact rfl, _, _, rfl, h2, rfl⟩, ih h3 t⟩
theorem Ext.grow {p : Addr} (k : ∀ b o, H b = some o → H' b = some o) (hp : H p = none) : Ext ρ n H (ext1 ρ n p) (n + 1) H' where
  le := Nat.le_succ _
  ag := fun i hi => ext1_lt hi
  keep := fun b o e _ => k b o e
  fresh := fun i h1 h2 => by
    have : i = n := by omega
    subst this
    rw [ext1_same]
    exact hp
  tup := fun b o e _ => k b o e
  there := fun b o e => ⟨o, k b o e⟩
theorem Sim.grow {p : Addr} {o : O} (S : Sim G ρ h H) (k : ∀ b o, H b = some o → H' b = some o) (hp : H p = none) (r : RO G (ext1 ρ h.n p) (h.n + 1) H' false p o) : Sim G (ext1 ρ h.n p) (h.push o) H' where
  inj := fun i j hi hj e => by
    have hi' : i < h.n + 1 := hi
    have hj' : j < h.n + 1 := hj
    by_cases qi : i = h.n <;> by_cases qj : j = h.n
    · rw [qi, qj]
    · have l : j < h.n := by omega
      obtain ⟨x, hx, _⟩ := S.has l
      rw [qi, ext1_same, ext1_lt l] at e
      rw [← e, hp] at hx
      cases hx
    · have l : i < h.n := by omega
      obtain ⟨x, hx, _⟩ := S.has l
      rw [qj, ext1_same, ext1_lt l] at e
      rw [e, hp] at hx
      cases hx
    · have li : i < h.n := by omega
      have lj : j < h.n := by omega
      rw [ext1_lt li, ext1_lt lj] at e
      exact S.inj i j li lj e
  obj := fun i hi => by
    have hi' : i < h.n + 1 := hi
    by_cases q : i = h.n
    · subst q
      refine ⟨o, if_pos rfl, ?_⟩
      rw [ext1_same, show decide (h.n ∈ (h.push o).lk) = false from decide_eq_false fun z => absurd (S.lkb _ z) (Nat.lt_irrefl _)]
      exact r
    · have l : i < h.n := by omega
      obtain ⟨o', e, r'⟩ := S.obj i l
      obtain ⟨x, hx, _⟩ := r'.there
      refine ⟨o', (if_neg q).trans e, ?_⟩
      rw [ext1_lt l]
      exact r'.ext (Ext.grow k hp) (by rw [hx]; exact k _ _ hx)
  lkb := fun a ha => Nat.lt_succ_of_lt (S.lkb a ha)
  lkd := fun a ha => by
    show isD (if a = h.n then some o else h.g a) = true
    rw [if_neg (Nat.ne_of_lt (S.lkb a ha))]
    exact S.lkd a ha
theorem Nx.grow {p : Addr} {o : O} (S : Sim G ρ h H) (k : ∀ b o, H b = some o → H' b = some o) (hp : H p = none) : Nx ρ h H (ext1 ρ h.n p) (h.push o) H' :=
  have z : ∀ i, i < h.n → H' (ρ i) = H (ρ i) := fun i hn => by
    obtain ⟨x, hx, _⟩ := S.has hn
    rw [hx]
    exact k _ _ hx
  ⟨Ext.grow k hp, rfl, rfl, fun i _ hn => z i hn, fun i _ hn => z i hn⟩
theorem listitems_ok (S : Sim G ρ h H) {x : W} {v : V} (r : RV G ρ h.n H x v) (A : Ans G ρ h H (bi .listitems [x] h) (PQ G Q) E) : LiI.rItemsL v H Q := by
  cases x with
  | ref a =>
    obtain ⟨ha, rfl⟩ := r.ref
    unfold bi at A
    dsimp only at A
    split at A
    · rename_i kvs e
      split at A
      · exact A.elim
      · rename_i hn
        obtain ⟨ys, _, h2, h3⟩ := S.dK ha e
        refine ⟨_, ys, rfl, h3 hn, fun H' p ts k hp ht hpt hH hP => ?_⟩
        refine A (ext1 ρ h.n p) H' (Nx.grow S k hp) (S.grow k hp ⟨ts.map V.ref, hH, ?_⟩) (.ref p) ⟨Nat.lt_succ_self _, by rw [ext1_same]⟩
        exact items_RVs (RKV.ext (Ext.grow k hp) _ _ h2) hP
    · exact A.elim
  | _ => exact (show False from A).elim
end
end Mn
end
section
set_option Elab.async false
set_option linter.all false
set_option maxRecDepth 100000
set_option maxHeartbeats 4000000
namespace Mn
open PySem PySem.Spec PyProof.Rows L2
variable {G : Env} {ρ ρ' : Nat → Addr} {n n' : Nat} {H H' : Hp} {h h' : Hm}
section
variable {X : Cx}
def TyM (X : Cx) (T : String) (x : V) (H : Hp) : Prop := ∀ pins s σ v, Inv X pins σ H s → RelV x v → s.TypeIs v T ∧ ∀ a, v = .ref a → ∃ ob, s.heap.get? a = some ob ∧ ob.dict = none
theorem TyM.of {T : String} {x : V} (t : tyV X.K T x H) : TyM X T x H := fun pins s σ v I r => tyV_is I r t
def wM (X : Cx) (id : String) : V → List V → Hp → VK → Prop := fun x xs H Q => ∀ pins s σ v us, Inv X pins σ H s → RelV x v → Vals xs us → wpAny (model X.prog X.w) X.A (call (.builtin id) (v :: us)) (EP X pins σ Q) X.xe s
theorem MtR.to {id : String} {r : V → List V → Hp → VK → Prop} (m : MtR X id r) {x : V} {xs : List V} {Q : VK} (h : r x xs H Q) : wM X id x xs H Q := fun pins s σ v us I rx rv => m pins s σ H x xs v us Q I rx rv h
variable {o e : Expr} {es : List Expr} {name : Str} {apos cpos : Pos}
structure MtF (T : String) (name : Str) (id : String) : Prop where
  pa : PlainAttrs T
  slot : Slot T name id
  ty : typeOf (.builtin id) = pure (.type "method_descriptor")
theorem wE_meth {σ : L2.St} {Q : VK} (ho : wE X o σ H fun x H1 => ∃ T id, MtF T name id ∧ TyM X T x H1 ∧ wA X (e :: es) σ H1 fun vs H2 => wM X id x vs H2 Q)
    (hbase : attributeBase o name X.env (eval o X.env) = eval o X.env)
    (hfew : ((backTo cpos (starEach (e :: es) X.env)).all (fun x => !x.1) && (backToKw cpos (keywordEach [] X.env)).all (fun x => x.1.isSome)
      && decide ((e :: es).length + ([] : List Keyword).length + (if ([] : List Keyword).isEmpty then 0 else 1) < 30)) = true)
    (hline : (apos.endLine == cpos.line) = true) (hs : starEach (e :: es) X.env = (false, eval e X.env) :: starEach es X.env) (hplain : (backTo cpos (starEach es X.env)).any (·.1) = false) :
    wE X (.Call (.Attribute o name apos) (e :: es) [] cpos) σ H Q := fun pins s I => by
  refine wpAny_Call_method_late hbase hfew hline rfl (thn (ho pins s I) fun v s1 ⟨x, H1, I1, r1, T, id, F, ty, q1⟩ => ?_)
  obtain ⟨h1, h2⟩ := ty pins s1 σ v I1 r1
  refine ⟨T, id, F.pa, F.slot, F.ty, h1, h2, ?_⟩
  have hA := q1 cpos pins s1 I1
  rw [hs] at hA ⊢
  refine Calls.callWith_builtin (by show (false || (backTo cpos (starEach es X.env)).any (·.1)) = false; rw [hplain] <;> rfl) (Calls.evalArgs_plain ?_)
  exact thn hA fun us s2 ⟨vs, H2, I2, r2, q2⟩ => q2 pins s2 σ v us I2 r1 r2
theorem wE_meth0 {σ : L2.St} {Q : VK} (ho : wE X o σ H fun x H1 => ∃ T id, MtF T name id ∧ TyM X T x H1 ∧ wM X id x [] H1 Q)
    (hbase : attributeBase o name X.env (eval o X.env) = eval o X.env) (hline : (apos.endLine == cpos.line) = true) :
    wE X (.Call (.Attribute o name apos) [] [] cpos) σ H Q := fun pins s I => by
  refine wpAny_Call_method0_late hbase hline (thn (ho pins s I) fun v s1 ⟨x, H1, I1, r1, T, id, F, ty, q1⟩ => ?_)
  obtain ⟨h1, h2⟩ := ty pins s1 σ v I1 r1
  exact ⟨T, id, F.pa, F.slot, F.ty, h1, h2, Calls.callWith_builtin rfl (PySem.evalArgs_none (q1 pins s1 σ v [] I1 r1 .nil))⟩
end
def kN : KT → String
  | .list => "list" | .dict => "dict" | .str => "str" | .tuple => "tuple"
def bmN : BM → Str
  | .append => "append" | .extend => "extend" | .pop => "pop" | .insert => "insert" | .remove => "remove" | .count => "count" | .index => "index" | .reverse => "reverse" | .get => "get" | .setdefault => "setdefault" | .join => "join" | .split => "split"
  | .partition => "partition" | .replace => "replace" | .startswith => "startswith"
def bmId : KT → BM → Option String
  | .list, .append => some "list.append" | .list, .extend => some "list.extend" | .list, .pop => some "list.pop" | .list, .index => some "list.index"
  | .dict, .pop => some "dict.pop" | .dict, .get => some "dict.get"
  | .str, .index => some "str.index" | .str, .join => some "str.join" | .str, .split => some "str.split" | .str, .partition => some "str.partition" | .str, .startswith => some "str.startswith"
  | .tuple, .index => some "tuple.index"
  | _, _ => none
theorem mtF {k : KT} {m : BM} {id : String} (e : bmId k m = some id) : MtF (kN k) (bmN m) id := by
  cases k <;> cases m <;> first
    | (cases (show none = some id from e))
    | (cases e
       first
       | exact ⟨PySem.F.plainAttrs_list, PySem.F.slot_list_append, PySem.F.type_list_append⟩
       | exact ⟨PySem.F.plainAttrs_list, PySem.F.slot_list_extend, PySem.F.type_list_extend⟩
       | exact ⟨PySem.F.plainAttrs_list, PySem.F.slot_list_pop, PySem.F.type_list_pop⟩
       | exact ⟨PySem.F.plainAttrs_list, PySem.F.slot_list_index, PySem.F.type_list_index⟩
       | exact ⟨PySem.F.plainAttrs_dict, PySem.F.slot_dict_pop, PySem.F.type_dict_pop⟩
       | exact ⟨PySem.F.plainAttrs_dict, PySem.F.slot_dict_get, PySem.F.type_dict_get⟩
       | exact ⟨PySem.F.plainAttrs_str, PySem.F.slot_str_index, PySem.F.type_str_index⟩
       | exact ⟨PySem.F.plainAttrs_str, PySem.F.slot_str_join, PySem.F.type_str_join⟩
       | exact ⟨PySem.F.plainAttrs_str, PySem.F.slot_str_split, PySem.F.type_str_split⟩
       | exact ⟨PySem.F.plainAttrs_str, PySem.F.slot_str_partition, PySem.F.type_str_partition⟩
       | exact ⟨PySem.F.plainAttrs_str, PySem.F.slot_str_startswith, PySem.F.type_str_startswith⟩
       | exact ⟨PySem.F.plainAttrs_tuple, PySem.F.slot_tuple_index, PySem.F.type_tuple_index⟩)
section
variable {X : Cx} {Q : VK} {E : XK}
theorem kind_ok (hK : X.K = G.K) (S : Sim G ρ h H) {x : W} {v : V} {k : KT} (r : RV G ρ h.n H x v) (e : kindW x h = some k) : TyM X (kN k) v H := by
  have dct : ∀ {a : Addr}, v = .ref a → ((∃ kvs, Rd H a (.dK kvs)) ∨ ∃ kvs, Rd H a (.dT kvs)) → TyM X "dict" v H := fun {a} hv hd pins s σ u I ru => by
    subst hv
    obtain rfl : u = Value.ref a := ru
    have z : ∃ o, s.heap.get? a = some o ∧ o.ExactDict := by
      rcases hd with ⟨kvs, hk⟩ | ⟨kvs, hk⟩
      · obtain ⟨_, _, _, _, o, _, _, e, ex, _⟩ := (show ObjOk X.prog X.w H s.heap a (.dK kvs) from hk.ok I.hok)
        exact ⟨o, e, ex⟩
      · obtain ⟨_, _, _, _, o, _, _, e, ex, _⟩ := (show ObjOk X.prog X.w H s.heap a (.dT kvs) from hk.ok I.hok)
        exact ⟨o, e, ex⟩
    obtain ⟨o, e, ex⟩ := z
    refine ⟨⟨o, e, ex.1⟩, fun b e2 => ?_⟩
    cases e2
    exact ⟨o, e, ex.2.1⟩
  cases x with
  | str s => cases e; rw [r.str]; exact TyM.of rfl
  | ktup xs =>
    cases e
    obtain ⟨t, ys, rfl, ⟨o, its, m, h1, h2, h3, _⟩, _⟩ := r.ktupK
    exact TyM.of (.inr (.inl ⟨rfl, o, by rw [hK]; exact h1, h2, h3⟩))
  | klst xs =>
    cases e
    obtain ⟨t, ys, rfl, h1, _⟩ := r.klst
    exact TyM.of (.inl ⟨rfl, ys, by rw [hK]; exact h1.sq⟩)
  | ref a =>
    obtain ⟨ha, rfl⟩ := r.ref
    cases q1 : h.g a with
    | none => simp [kindW, q1] at e
    | some o =>
      cases o with
      | lst xs =>
        simp only [kindW, q1] at e
        cases e
        obtain ⟨ys, h1, _⟩ := S.lst ha q1
        exact TyM.of (.inl ⟨rfl, ys, SqL.of h1⟩)
      | dK kvs =>
        simp only [kindW, q1] at e
        cases e
        obtain ⟨ys, h1, _⟩ := S.dK ha q1
        exact dct rfl (.inl ⟨ys, h1⟩)
      | dT kvs =>
        simp only [kindW, q1] at e
        cases e
        obtain ⟨ys, h1, _⟩ := S.dT ha q1
        exact dct rfl (.inr ⟨ys, h1⟩)
      | ins c fs => simp [kindW, q1] at e
  | _ => simp [kindW] at e
theorem Sim.nlk (S : Sim G ρ h H) {a : Nat} (e : isD (h.g a) = false) : a ∉ h.lk := fun z => by
  rw [S.lkd a z] at e
  cases e
theorem Ans.setL {a : Nat} {xs : List W} {ys : List V} {w : W} {v : V} (A : Ans G ρ h H (Mn.setL h a xs w) (PQ G Q) E) (S : Sim G ρ h H) (ha : a < h.n) (hl : a ∉ h.lk) (r : RVs G ρ h.n H xs ys) (rw' : RV G ρ h.n H w v) : xs.length ≤ sizeLine ∧ Q v (upd H (ρ a) (.lst ys)) := by
  unfold Mn.setL at A
  split at A
  · rename_i q
    refine ⟨by rw [← line_eq]; exact q.2, ?_⟩
    exact A ρ (upd H (ρ a) (.lst ys)) (Nx.write S ha q.1 hl) (S.write ha hl ⟨ys, upd_same, RVs.ext (Ext.write S ha) xs ys r⟩) v (RV.ext (Ext.write S ha) w v rw')
  · exact A.elim
theorem Ans.setDK {a : Nat} {xs : List (Key × W)} {ys : List (Key × V)} {w : W} {v : V} (A : Ans G ρ h H (Mn.setD h a (.dK xs) w) (PQ G Q) E) (S : Sim G ρ h H) (ha : a < h.n) (r : RKV G id ρ h.n H xs ys) (rw' : RV G ρ h.n H w v) : a ∉ h.lk ∧ Q v (upd H (ρ a) (.dK ys)) := by
  unfold Mn.setD at A
  split at A
  · rename_i q
    refine ⟨q.2, ?_⟩
    refine A ρ (upd H (ρ a) (.dK ys)) (Nx.write S ha q.1 q.2) (S.write ha q.2 ⟨ys, ?_, RKV.ext (Ext.write S ha) xs ys r⟩) v (RV.ext (Ext.write S ha) w v rw')
    rw [if_neg (by simp [q.2])]
    exact upd_same
  · exact A.elim
theorem Ans.setDT {a : Nat} {xs : List (List Key × W)} {ys : List (List Key × V)} {w : W} {v : V} (A : Ans G ρ h H (Mn.setD h a (.dT xs) w) (PQ G Q) E) (S : Sim G ρ h H) (ha : a < h.n) (r : RKV G id ρ h.n H xs ys) (rw' : RV G ρ h.n H w v) : a ∉ h.lk ∧ Q v (upd H (ρ a) (.dT ys)) := by
  unfold Mn.setD at A
  split at A
  · rename_i q
    refine ⟨q.2, ?_⟩
    refine A ρ (upd H (ρ a) (.dT ys)) (Nx.write S ha q.1 q.2) (S.write ha q.2 ⟨ys, ?_, RKV.ext (Ext.write S ha) xs ys r⟩) v (RV.ext (Ext.write S ha) w v rw')
    rw [if_neg (by simp [q.2])]
    exact upd_same
  · exact A.elim
theorem list_extend_tupW (l : Addr) (items : Array Value) (n : Nat) (b : Addr) (items2 : Array Value) (n2 : Nat) (dd : Option Addr) (sl : Array (Option Value)) (hs0 : ¬(!items.isEmpty && Builtin.List.listTooLong (items.size + items2.size)) = true) (hs1 : items.size ≤ sizeLine) (hs2 : items.size + items2.size ≤ sizeLine + 1) :
    Meets (Builtin.«list.extend» ⟨[.ref l, .ref b], []⟩) (fun _ R s => s.heap.get? l = some { cls := .type "list", dict := none, data := .seq items n, slots := #[] } ∧ s.heap.get? b = some { cls := .type "tuple", dict := dd, data := .seq items2 n2, slots := sl } ∧ R (.ok (.ret Value.none)) { s with heap := s.heap.update l (Obj.mapSeq fun x => x ++ items2) }) :=
  .of_wp fun prog w A R s h => by
    obtain ⟨hp, g, d, tk, os⟩ := s; obtain ⟨hl, hb, h⟩ := h; have f1 := AutoSeq1.idx_int; have f2 := AutoSeq1.sub_tuple_tuple; have f3 := AutoSeq1.sub_list_list; have f4 := AutoSeq1.sub_tuple_list; have f5 := AutoSeq1.sub_list_tuple;
    have hz' : (items ++ items2).size ≤ sizeLine + 1 := by rw [Array.size_append]; exact hs2
    wp_walk using (wpAny_updateSeq hl rfl (hz := hs1) (_hz' := hz')), AutoSeq1.wpAny_loadPart' hl, AutoSeq1.wpAny_loadPart' hb; exact ⟨_, rfl, h⟩
theorem mt_extendT : MtR X "list.extend" (fun x vs H Q => ∃ l b xs zs, x = .ref l ∧ vs = [.ref b] ∧ H l = some (.lst xs) ∧ SqT X.K H b zs ∧ xs.length + zs.length ≤ sizeLine ∧ Q .non (upd H l (.lst (xs ++ zs)))) := by
  intro pins s σ H x vs v us Q I rx rv h
  obtain ⟨l, b, xs, zs, rfl, rfl, hH, hB, hz, q⟩ := h
  cases rx
  obtain ⟨u, rfl, ru⟩ := rv.one
  cases ru
  obtain ⟨z, its, n, r, hl, e⟩ := I.lstM hH
  obtain ⟨its2, r2, ⟨⟨cls, dd, data, sl⟩, ho, hc, n2, hd⟩, _⟩ := I.tuple hB
  simp only at hc hd
  subst hc hd
  have hl2 := r2.length
  have hsz : its.toArray.size + its2.toArray.size ≤ sizeLine := by rw [List.size_toArray, List.size_toArray]; omega
  have hlong : ¬ (!its.toArray.isEmpty && Builtin.List.listTooLong (its.toArray.size + its2.toArray.size)) = true := by
    rw [notLongL hsz, Bool.and_false]
    exact Bool.false_ne_true
  refine call_meets PySem.F.slot_list_extend ⟨_, e, rfl⟩ PySem.F.entry_list_extend (PySem.F.args_list_extend_2 _ _)
    (list_extend_tupW l its.toArray n b its2.toArray n2 dd sl hlong (by rw [List.size_toArray]; omega) (by omega)) ⟨e, ho, ?_⟩
  refine ⟨.non, _, I.lset (its' := its ++ its2) hH e (by simp) (r.append r2) ?_, rfl, q⟩
  rw [List.length_append]
  omega
end
end Mn
end
section
set_option Elab.async false
set_option linter.all false
set_option maxRecDepth 100000
set_option maxHeartbeats 4000000
namespace Mn
open PySem PySem.Spec PyProof.Rows L2
variable {G : Env} {ρ ρ' : Nat → Addr} {n n' : Nat} {H H' : Hp} {h h' : Hm}
theorem RVs.getLast {xs : List W} {ys : List V} {x : W} (r : RVs G ρ n H xs ys) (e : xs.getLast? = some x) : ∃ y, ys[ys.length - 1]? = some y ∧ RV G ρ n H x y := by
  rw [List.getLast?_eq_getElem?] at e
  rw [← r.length]
  exact r.get e
theorem RVs.dropLast {xs : List W} {ys : List V} (r : RVs G ρ n H xs ys) : RVs G ρ n H xs.dropLast ys.dropLast := by
  rw [List.dropLast_eq_take, List.dropLast_eq_take, ← r.length]
  exact r.take _
theorem idxL_ok {x : W} {v : V} (rx : RV G ρ n H x v) (fx : flat x = true) : ∀ {xs : List W} {ys : List V} {j : Nat}, RVs G ρ n H xs ys → xs.all flat = true → idxL x xs = some j →
    ∃ z, ys[j]? = some z ∧ L2.eqV z v = true ∧ ∀ (m : Nat) (z' : V), m < j → ys[m]? = some z' → L2.eqV z' v = false
  | [], _, _, _, _, e => by cases e
  | w :: xs, ys, j, r, f, e => by
    obtain ⟨y, q, rfl, h2, h3⟩ : ∃ y r, ys = y :: r ∧ RV G ρ n H w y ∧ RVs G ρ n H xs r := r
    rw [List.all_cons, Bool.and_eq_true] at f
    have ey := eqF_ok h2 rx f.1 fx
    have e' : (if eqF w x = true then some 0 else (idxL x xs).map (· + 1)) = some j := e
    split at e'
    · rename_i t
      cases e'
      exact ⟨y, rfl, by rw [ey, t], fun m z' hm => absurd hm (Nat.not_lt_zero _)⟩
    · rename_i t
      obtain ⟨i, h4, rfl⟩ := Option.map_eq_some_iff.mp e'
      obtain ⟨z, h5, h6, h7⟩ := idxL_ok rx fx h3 f.2 h4
      refine ⟨z, by simpa using h5, h6, fun m z' hm hz => ?_⟩
      cases m with
      | zero =>
        have : y = z' := by simpa using hz
        rw [← this, ey]
        simpa using t
      | succ m => exact h7 m z' (by omega) (by simpa using hz)
theorem idxS_ok {x : Str} : ∀ {xs : List Str} {j : Nat}, idxS x xs = some j → xs[j]? = some x ∧ ∀ m, m < j → xs[m]? ≠ some x
  | [], _, e => by cases e
  | y :: xs, j, e => by
    have e' : (if y = x then some 0 else (idxS x xs).map (· + 1)) = some j := e
    split at e'
    · rename_i t
      cases e'
      exact ⟨by rw [t]; rfl, fun m hm => absurd hm (Nat.not_lt_zero _)⟩
    · rename_i t
      obtain ⟨i, h4, rfl⟩ := Option.map_eq_some_iff.mp e'
      obtain ⟨h5, h6⟩ := idxS_ok h4
      refine ⟨by simpa using h5, fun m hm => ?_⟩
      cases m with
      | zero =>
        intro z
        exact t (by simpa using z)
      | succ m =>
        intro z
        exact h6 m (by omega) (by simpa using z)
section
variable {X : Cx} {Q : VK} {E : XK}
theorem getD_ok {r : Option W} {o : Option V} {d : W} {u : V} (e : RVo G ρ n H r o) (ru : RV G ρ n H d u) : RV G ρ n H (r.getD d) (o.getD u) := by
  cases r with
  | none => rw [show o = none from e]; exact ru
  | some w => obtain ⟨x, rfl, h2⟩ : ∃ x, o = some x ∧ RV G ρ n H w x := e; exact h2
theorem bm_ok (hK : X.K = G.K) (hu : X.A.units + 70 < cLine) (S : Sim G ρ h H) {k : KT} {m : BM} {x : W} {ws : List W} {v : V} {vs : List V} (hk : kindW x h = some k) (r : RV G ρ h.n H x v) (rs : RVs G ρ h.n H ws vs)
    (A : Ans G ρ h H (bm m x ws h) (PQ G Q) E) : ∃ id, bmId k m = some id ∧ wM X id v vs H Q := by
  have nul : ∀ {vs : List V}, RVs G ρ h.n H [] vs → vs = [] := fun z => z
  unfold bm at A
  cases m with
  | append =>
    dsimp only at A
    split at A
    · rename_i a y
      obtain ⟨ha, rfl⟩ := r.ref
      obtain ⟨u, rfl, ru⟩ := rs.one
      split at A
      · rename_i xs e
        obtain ⟨ys, h1, h2⟩ := S.lst ha e
        simp only [kindW, e] at hk
        cases hk
        obtain ⟨hl, q⟩ := A.setL S ha (S.nlk (by rw [e]; rfl)) (h2.append (show RVs G ρ h.n H [y] [u] from ⟨_, _, rfl, ru, rfl⟩)) (v := .non) rfl
        rw [List.length_append, List.length_singleton] at hl
        exact ⟨_, rfl, MtR.to mt_append ⟨_, ys, u, rfl, rfl, h1, by rw [← h2.length]; omega, q⟩⟩
      · exact A.elim
    · exact A.elim
  | extend =>
    dsimp only at A
    split at A
    · rename_i a y
      obtain ⟨ha, rfl⟩ := r.ref
      obtain ⟨u, rfl, ru⟩ := rs.one
      split at A
      · rename_i xs zs e e2
        obtain ⟨ys, h1, h2⟩ := S.lst ha e
        simp only [kindW, e] at hk
        cases hk
        split at A
        · exact A.elim
        rename_i hks
        have tup : ∀ {t : Addr} {us : List V}, u = .ref t → SqT G.K H t us → RVs G ρ h.n H zs us → ∃ id, bmId .list .extend = some id ∧ wM X id (.ref (ρ a)) [u] H Q := fun {t us} hu' hq hr => by
          subst hu'
          obtain ⟨hl, q⟩ := A.setL S ha (S.nlk (by rw [e]; rfl)) (h2.append hr) (v := .non) rfl
          rw [List.length_append] at hl
          exact ⟨_, rfl, MtR.to mt_extendT ⟨_, t, ys, us, rfl, rfl, h1, by rw [hK]; exact hq, by rw [← h2.length, ← hr.length]; exact hl, q⟩⟩
        cases y with
        | ref b =>
          obtain ⟨hb, rfl⟩ := ru.ref
          cases q1 : h.g b with
          | none => simp [seqW, rdL, q1] at e2
          | some o =>
            cases o with
            | lst ws =>
              simp [seqW, rdL, q1] at e2
              subst e2
              obtain ⟨us, h3, h4⟩ := S.lst hb q1
              obtain ⟨hl, q⟩ := A.setL S ha (S.nlk (by rw [e]; rfl)) (h2.append h4) (v := .non) rfl
              rw [List.length_append] at hl
              exact ⟨_, rfl, MtR.to mt_extend ⟨_, _, ys, us, rfl, rfl, h1, h3, by rw [← h2.length, ← h4.length]; exact hl, q⟩⟩
            | _ => simp [seqW, rdL, q1] at e2
        | tup ws =>
          cases (show some ws = some zs from e2)
          obtain ⟨t, us, hu', h3, h4⟩ := ru.tup
          exact tup hu' (SqT.of h3) h4
        | ktup ws =>
          cases (show some ws = some zs from e2)
          obtain ⟨t, us, hu', h3, h4⟩ := ru.ktup
          exact tup hu' h3 h4
        | klst ws => exact absurd rfl hks
        | _ => simp [seqW, rdL] at e2
      · exact A.elim
    · exact A.elim
  | pop =>
    dsimp only at A
    split at A
    · rename_i a
      obtain ⟨ha, rfl⟩ := r.ref
      have := nul rs
      subst this
      split at A
      · rename_i xs e
        obtain ⟨ys, h1, h2⟩ := S.lst ha e
        simp only [kindW, e] at hk
        cases hk
        split at A
        · rename_i z ez
          obtain ⟨y, h3, h4⟩ := h2.getLast ez
          obtain ⟨hl, q⟩ := A.setL S ha (S.nlk (by rw [e]; rfl)) h2.dropLast h4
          exact ⟨_, rfl, MtR.to mt_pop ⟨_, ys, y, rfl, rfl, h1, h3, q⟩⟩
        · exact A.elim
      · exact A.elim
    · rename_i a k0
      obtain ⟨ha, rfl⟩ := r.ref
      obtain ⟨u, rfl, ru⟩ := rs.one
      split at A
      · rename_i xs e
        obtain ⟨ys, h1, h2⟩ := S.lst ha e
        simp only [kindW, e] at hk
        cases hk
        split at A
        · split at A
          · rename_i x0 xr
            obtain ⟨y, q0, rfl, h3, h4⟩ : ∃ y r, ys = y :: r ∧ RV G ρ h.n H x0 y ∧ RVs G ρ h.n H xr r := h2
            obtain ⟨hl, q⟩ := A.setL S ha (S.nlk (by rw [e]; rfl)) h4 h3
            rw [ru.int]
            refine ⟨_, rfl, MtR.to mt_popAt ⟨_, _, 0, 0, y, rfl, rfl, h1, by decide, by decide, ?_, rfl, q⟩⟩
            simp [seqIndex?]
          · exact A.elim
        · exact A.elim
      · rename_i kvs e
        obtain ⟨ys, h1, h2, h3⟩ := S.dK ha e
        simp only [kindW, e] at hk
        cases hk
        split at A
        · rename_i j ej
          split at A
          · rename_i w ew
            have z := h2.look j (fun _ _ e => e)
            rw [ew] at z
            obtain ⟨y, z1, z2⟩ := z
            obtain ⟨hn, q⟩ := A.setDK S ha (h2.drop j) z2
            refine ⟨_, rfl, fun pins s σ v us I rv rus => ?_⟩
            obtain rfl : v = Value.ref _ := rv
            obtain ⟨u', rfl, ru'⟩ := vals1 rus
            rw [keyOf_ok ej ru] at ru'
            exact d_pop I (h3 hn) ru' z1 (.inl rfl) fun w' s3 I3 rw' => ⟨y, _, I3, rw', q⟩
          · exact A.elim
        · exact A.elim
      · exact A.elim
    · rename_i a k0 d
      obtain ⟨ha, rfl⟩ := r.ref
      obtain ⟨u, u2, rfl, ru, ru2⟩ := rs.two
      split at A
      · rename_i kvs e
        obtain ⟨ys, h1, h2, h3⟩ := S.dK ha e
        simp only [kindW, e] at hk
        cases hk
        split at A
        · rename_i j ej
          have z := h2.look j (fun _ _ e => e)
          split at A
          · rename_i w ew
            rw [ew] at z
            obtain ⟨y, z1, z2⟩ := z
            obtain ⟨hn, q⟩ := A.setDK S ha (h2.drop j) z2
            refine ⟨_, rfl, fun pins s σ v us I rv rus => ?_⟩
            obtain rfl : v = Value.ref _ := rv
            obtain ⟨u', u2', rfl, ru', ru2'⟩ := vals2 rus
            rw [keyOf_ok ej ru] at ru'
            exact d_pop I (h3 hn) ru' z1 (.inr ⟨u2', rfl⟩) fun w' s3 I3 rw' => ⟨y, _, I3, rw', q⟩
          · rename_i ew
            rw [ew] at z
            split at A
            · rename_i hn
              have q := A.val S ru2
              refine ⟨_, rfl, fun pins s σ v us I rv rus => ?_⟩
              obtain rfl : v = Value.ref _ := rv
              obtain ⟨u', u2', rfl, ru', ru2'⟩ := vals2 rus
              rw [keyOf_ok ej ru] at ru'
              exact d_popD I (h3 hn) ru' z fun s4 I4 => ⟨u2, H, I4, ru2', q⟩
            · exact A.elim
        · exact A.elim
      · exact A.elim
    · exact A.elim
  | index =>
    dsimp only at A
    split at A
    · rename_i t s0
      cases hk
      obtain ⟨u, rfl, ru⟩ := rs.one
      rw [r.str, ru.str]
      split at A
      · rename_i j rest e
        exact ⟨_, rfl, MtR.to mt_sindex ⟨_, _, j, rest, rfl, rfl, e, A.val S rfl⟩⟩
      · exact A.elim
    · rename_i xs s0
      cases hk
      obtain ⟨t, ys, rfl, h1, h2⟩ := r.ktup
      obtain ⟨u, rfl, ru⟩ := rs.one
      rw [ru.str]
      split at A
      · rename_i j e
        obtain ⟨ss, e1, e2⟩ := Option.bind_eq_some_iff.mp e
        rw [RVs.strs e1 h2] at h1
        obtain ⟨h3, h4⟩ := idxS_ok e2
        exact ⟨_, rfl, MtR.to mt_tup_index ⟨t, ss, _, j, rfl, rfl, by rw [hK]; exact h1, h3, h4, A.val S rfl⟩⟩
      · exact A.elim
    · rename_i x0 _ _
      obtain ⟨u, rfl, ru⟩ := rs.one
      split at A
      · rename_i xs e
        obtain ⟨t, ys, rfl, h1, h2⟩ := rdL_ok S r e
        have hk' : k = .list := by
          cases x with
          | klst zs => cases hk; rfl
          | ref a =>
            cases q1 : h.g a with
            | none => simp [rdL, q1] at e
            | some o =>
              cases o with
              | lst zs => simp only [kindW, q1] at hk; cases hk; rfl
              | _ => simp [rdL, q1] at e
          | _ => simp [rdL] at e
        subst hk'
        split at A
        · rename_i hf
          rw [Bool.and_eq_true] at hf
          split at A
          · rename_i j ej
            obtain ⟨z, h3, h4, h5⟩ := idxL_ok ru hf.1 h2 hf.2 ej
            exact ⟨_, rfl, MtR.to mt_index ⟨t, ys, u, j, z, rfl, rfl, by rw [hK]; exact h1, flat_ok ru hf.1, flats_ok h2 hf.2, h3, h4, h5, A.val S rfl⟩⟩
          · exact A.elim
        · exact A.elim
      · exact A.elim
    · exact A.elim
  | get =>
    dsimp only at A
    split at A
    · rename_i k0 d
      obtain ⟨u, u2, rfl, ru, ru2⟩ := rs.two
      split at A
      · rename_i r0 e
        obtain ⟨a, o, rfl, h2, h3⟩ := dget_ok S r ru e
        have hk' : k = .dict := by
          cases x with
          | ref a =>
            cases q1 : h.g a with
            | none => simp [dget, q1] at e
            | some o =>
              cases o with
              | dK zs => simp only [kindW, q1] at hk; cases hk; rfl
              | dT zs => simp only [kindW, q1] at hk; cases hk; rfl
              | _ => simp [dget, q1] at e
          | _ => simp [dget] at e
        subst hk'
        have q := A.val S (getD_ok h3 ru2)
        refine ⟨_, rfl, fun pins s σ v us I rv rus => ?_⟩
        obtain rfl : v = Value.ref _ := rv
        obtain ⟨u', u2', rfl, ru', ru2'⟩ := vals2 rus
        exact d_get2 (by omega) I h2 ru' ru2' fun w' s' I' rw' => ⟨_, H, I', rw', q⟩
      · exact A.elim
    · exact A.elim
  | join =>
    dsimp only at A
    split at A
    · rename_i s0 y
      cases hk
      obtain ⟨u, rfl, ru⟩ := rs.one
      rw [r.str]
      split at A
      · rename_i ys e
        obtain ⟨xs, e1, e2⟩ := Option.bind_eq_some_iff.mp e
        obtain ⟨t, us, rfl, h1, h2⟩ := seqW_ok S ru e1
        rw [RVs.strs e2 h2] at h1
        split at A
        · rename_i hl
          exact ⟨_, rfl, MtR.to mt_join ⟨_, t, ys, rfl, rfl, by rw [hK]; exact h1, hl, A.val S rfl⟩⟩
        · exact A.elim
      · exact A.elim
    · exact A.elim
  | split =>
    dsimp only at A
    split at A
    · rename_i s0 t0
      cases hk
      obtain ⟨u, rfl, ru⟩ := rs.one
      rw [r.str, ru.str]
      split at A
      · rename_i hl
        refine ⟨_, rfl, MtR.to mt_split ⟨_, _, rfl, rfl, by simpa using hl.1, by rw [← line_eq]; exact hl.2, fun p hp => A.lst S ?_ hp⟩⟩
        generalize Txt.split s0 t0 = l
        induction l with
        | nil => exact rfl
        | cons z l ih => exact ⟨_, _, rfl, rfl, ih⟩
      · exact A.elim
    · exact A.elim
  | partition =>
    dsimp only at A
    split at A
    · rename_i s0 t0
      cases hk
      obtain ⟨u, rfl, ru⟩ := rs.one
      rw [r.str, ru.str]
      split at A
      · rename_i hl
        exact ⟨_, rfl, MtR.to mt_partition ⟨_, _, rfl, rfl, by simpa using hl.1, by rw [← line_eq]; exact hl.2, fun p hp => A.tup S ⟨_, _, rfl, rfl, _, _, rfl, rfl, _, _, rfl, rfl, rfl⟩ hp⟩⟩
      · exact A.elim
    · exact A.elim
  | startswith =>
    dsimp only at A
    split at A
    · cases hk
      obtain ⟨u, rfl, ru⟩ := rs.one
      rw [r.str, ru.str]
      exact ⟨_, rfl, MtR.to mt_startswith ⟨_, _, rfl, rfl, A.val S rfl⟩⟩
    · exact A.elim
  | _ => exact A.elim
end
end Mn
end
section
set_option Elab.async false
set_option linter.all false
set_option maxRecDepth 100000
set_option maxHeartbeats 4000000
namespace Mn
open PySem PySem.Spec PyProof.Rows L2
def asName : Expr → Option Str
  | .Name x _ => some x
  | _ => none
theorem asName_eq {e : Expr} {x : Str} (h : asName e = some x) : ∃ p, e = .Name x p := by
  cases e <;> first | (cases (show none = some x from h)) | (cases h; exact ⟨_, rfl⟩)
def asConst : Expr → Option Const
  | .Constant c _ _ => some c
  | _ => none
theorem asConst_eq {e : Expr} {c : Const} (h : asConst e = some c) : ∃ k p, e = .Constant c k p := by
  cases e <;> first | (cases (show none = some c from h)) | (cases h; exact ⟨_, _, rfl⟩)
def asBin : Expr → Option (Operator × Expr × Expr)
  | .BinOp a o b _ => some (o, a, b)
  | _ => none
theorem asBin_eq {e a b : Expr} {o : Operator} (h : asBin e = some (o, a, b)) : ∃ p, e = .BinOp a o b p := by
  cases e <;> first | (cases (show none = some _ from h)) | (cases h; exact ⟨_, rfl⟩)
def asNeg : Expr → Option Expr
  | .UnaryOp .USub a _ => some a
  | _ => none
theorem asNeg_eq {e a : Expr} (h : asNeg e = some a) : ∃ p, e = .UnaryOp .USub a p := by
  unfold asNeg at h
  split at h <;> first | (cases h; exact ⟨_, rfl⟩) | cases h
def asNot : Expr → Option Expr
  | .UnaryOp .Not a _ => some a
  | _ => none
theorem asNot_eq {e a : Expr} (h : asNot e = some a) : ∃ p, e = .UnaryOp .Not a p := by
  unfold asNot at h
  split at h <;> first | (cases h; exact ⟨_, rfl⟩) | cases h
def asCmp : Expr → Option (CmpOp × Expr × Expr)
  | .Compare a [o] [b] _ => some (o, a, b)
  | _ => none
theorem asCmp_eq {e a b : Expr} {o : CmpOp} (h : asCmp e = some (o, a, b)) : ∃ p, e = .Compare a [o] [b] p := by
  unfold asCmp at h
  split at h <;> first | (cases h; exact ⟨_, rfl⟩) | cases h
def asCmp2 : Expr → Option (CmpOp × CmpOp × Expr × Expr × Expr)
  | .Compare a [o, p] [b, c] _ => some (o, p, a, b, c)
  | _ => none
theorem asCmp2_eq {e a b c : Expr} {o p : CmpOp} (h : asCmp2 e = some (o, p, a, b, c)) : ∃ q, e = .Compare a [o, p] [b, c] q := by
  unfold asCmp2 at h
  split at h <;> first | (cases h; exact ⟨_, rfl⟩) | cases h
def asAnd : Expr → Option (Expr × Expr)
  | .BoolOp .And [a, b] _ => some (a, b)
  | .BoolOp .And (a :: b :: c :: r) p => some (a, .BoolOp .And (b :: c :: r) p)
  | _ => none
theorem asAnd_eq {e a b : Expr} (h : asAnd e = some (a, b)) : (∃ p, e = .BoolOp .And [a, b] p) ∨ ∃ c d r p, b = .BoolOp .And (c :: d :: r) p ∧ e = .BoolOp .And (a :: c :: d :: r) p := by
  unfold asAnd at h
  split at h
  · cases h; exact .inl ⟨_, rfl⟩
  · cases h; exact .inr ⟨_, _, _, _, rfl, rfl⟩
  · cases h
def asOr : Expr → Option (Expr × Expr)
  | .BoolOp .Or [a, b] _ => some (a, b)
  | .BoolOp .Or (a :: b :: c :: r) p => some (a, .BoolOp .Or (b :: c :: r) p)
  | _ => none
theorem asOr_eq {e a b : Expr} (h : asOr e = some (a, b)) : (∃ p, e = .BoolOp .Or [a, b] p) ∨ ∃ c d r p, b = .BoolOp .Or (c :: d :: r) p ∧ e = .BoolOp .Or (a :: c :: d :: r) p := by
  unfold asOr at h
  split at h
  · cases h; exact .inl ⟨_, rfl⟩
  · cases h; exact .inr ⟨_, _, _, _, rfl, rfl⟩
  · cases h
def asTup : Expr → Option (List Expr)
  | .Tuple es _ _ => some es
  | _ => none
theorem asTup_eq {e : Expr} {es : List Expr} (h : asTup e = some es) : ∃ k p, e = .Tuple es k p := by
  cases e <;> first | (cases (show none = some es from h)) | (cases h; exact ⟨_, _, rfl⟩)
def asLst : Expr → Option (List Expr)
  | .List es _ => some es
  | _ => none
theorem asLst_eq {e : Expr} {es : List Expr} (h : asLst e = some es) : ∃ p, e = .List es p := by
  cases e <;> first | (cases (show none = some es from h)) | (cases h; exact ⟨_, rfl⟩)
def asDict0 : Expr → Bool
  | .Dict [] [] _ => true
  | _ => false
theorem asDict0_eq {e : Expr} (h : asDict0 e = true) : ∃ p, e = .Dict [] [] p := by
  unfold asDict0 at h
  split at h <;> first | exact ⟨_, rfl⟩ | cases h
def someL : List (Option Expr) → Option (List Expr)
  | [] => some []
  | some k :: r => (match someL r with
    | some ks => some (k :: ks)
    | none => none)
  | none :: _ => none
theorem someL_eq : ∀ {l : List (Option Expr)} {ks : List Expr}, someL l = some ks → l = ks.map some
  | [], ks, h => by cases h; rfl
  | some k :: r, ks, h => by
    unfold someL at h
    split at h
    · rename_i q
      cases h
      rw [someL_eq q]
      rfl
    · cases h
  | none :: _, _, h => by cases h
def asDisp : Expr → Option (List Expr × List Expr)
  | .Dict keys values _ => (match someL keys with
    | some ks => if decide (ks.length = values.length) && !ks.isEmpty && decide (ks.length ≤ 15) then some (ks, values) else none
    | none => none)
  | _ => none
theorem asDisp_eq {e : Expr} {ks vs : List Expr} (h : asDisp e = some (ks, vs)) : ∃ p, e = .Dict (ks.map some) vs p ∧ ks.length = vs.length ∧ ks ≠ [] ∧ ks.length ≤ 15 := by
  unfold asDisp at h
  split at h
  · split at h
    · rename_i q
      split at h
      · rename_i c
        cases h
        simp only [Bool.and_eq_true] at c
        refine ⟨_, by rw [someL_eq q], of_decide_eq_true c.1.1, ?_, of_decide_eq_true c.2⟩
        intro z
        rw [z] at c
        cases c.1.2
      · cases h
    · cases h
  · cases h
def inter {α : Type} : List α → List α → List α
  | k :: ks, v :: vs => k :: v :: inter ks vs
  | _, _ => []
def asAttr : Expr → Option (Expr × Str)
  | .Attribute a f _ => some (a, f)
  | _ => none
theorem asAttr_eq {e a : Expr} {f : Str} (h : asAttr e = some (a, f)) : ∃ p, e = .Attribute a f p := by
  cases e <;> first | (cases (show none = some _ from h)) | (cases h; exact ⟨_, rfl⟩)
def notSl : Expr → Bool
  | .Slice _ _ _ _ => false
  | _ => true
def asSub : Expr → Option (Expr × Expr)
  | .Subscript a b _ => if notSl b then some (a, b) else none
  | _ => none
theorem asSub_eq {e a b : Expr} (h : asSub e = some (a, b)) : notSl b = true ∧ ∃ p, e = .Subscript a b p := by
  unfold asSub at h
  split at h
  · split at h
    · rename_i q
      cases h
      exact ⟨q, _, rfl⟩
    · cases h
  · cases h
theorem notSl_plain {b : Expr} (h : notSl b = true) : PlainIx b := by
  cases b <;> first | exact fun _ _ => rfl | cases h
def asCut : Expr → Option (Expr × Option Expr × Option Expr)
  | .Subscript a (.Slice lo hi none _) _ => some (a, lo, hi)
  | _ => none
theorem asCut_eq {e a : Expr} {lo hi : Option Expr} (h : asCut e = some (a, lo, hi)) : ∃ q p, e = .Subscript a (.Slice lo hi none q) p := by
  unfold asCut at h
  split at h <;> first | (cases h; exact ⟨_, _, rfl⟩) | cases h
def asCallN : Expr → Option (Str × List Expr)
  | .Call (.Name x _) es [] _ => some (x, es)
  | _ => none
theorem asCallN_eq {e : Expr} {x : Str} {es : List Expr} (h : asCallN e = some (x, es)) : ∃ p q, e = .Call (.Name x p) es [] q := by
  unfold asCallN at h
  split at h <;> first | (cases h; exact ⟨_, _, rfl⟩) | cases h
def asCallA : Expr → Option (Expr × Str × List Expr)
  | .Call (.Attribute o m ap) es [] q => if ap.endLine == q.line then some (o, m, es) else none
  | _ => none
theorem asCallA_eq {e o : Expr} {m : Str} {es : List Expr} (h : asCallA e = some (o, m, es)) : ∃ p q, (p.endLine == q.line) = true ∧ e = .Call (.Attribute o m p) es [] q := by
  unfold asCallA at h
  split at h
  · split at h
    · rename_i z
      cases h
      exact ⟨_, _, z, rfl⟩
    · cases h
  · cases h
def asLC : Expr → Option (Expr × Expr × Expr × Option Expr × Scope)
  | .ListComp elt [⟨tg, iter, [], 0⟩] sc _ => some (elt, tg, iter, none, sc)
  | .ListComp elt [⟨tg, iter, [c], 0⟩] sc _ => some (elt, tg, iter, some c, sc)
  | _ => none
theorem asLC_eq {e elt tg iter : Expr} {c : Option Expr} {sc : Scope} (h : asLC e = some (elt, tg, iter, c, sc)) : ∃ p, e = .ListComp elt [⟨tg, iter, c.toList, 0⟩] sc p := by
  unfold asLC at h
  split at h <;> first | (cases h; exact ⟨_, rfl⟩) | cases h
def notStar : Expr → Bool
  | .Starred _ _ => false
  | _ => true
theorem star_cons {e : Expr} (h : notStar e = true) (es : List Expr) (env : PySem.Env) : starEach (e :: es) env = (false, eval e env) :: starEach es env := by
  cases e <;> first | rfl | cases h
theorem star_any (pos : Pos) (env : PySem.Env) : ∀ {es : List Expr}, es.all notStar = true → (backTo pos (starEach es env)).any (·.1) = false
  | [], _ => rfl
  | e :: es, h => by
    rw [List.all_cons, Bool.and_eq_true] at h
    rw [star_cons h.1]
    show (false || (backTo pos (starEach es env)).any (·.1)) = false
    rw [star_any pos env h.2]
    rfl
theorem star_all (pos : Pos) (env : PySem.Env) : ∀ {es : List Expr}, es.all notStar = true → (backTo pos (starEach es env)).all (fun x => !x.1) = true
  | [], _ => rfl
  | e :: es, h => by
    rw [List.all_cons, Bool.and_eq_true] at h
    rw [star_cons h.1]
    show (true && (backTo pos (starEach es env)).all (fun x => !x.1)) = true
    rw [star_all pos env h.2]
    rfl
def plainB : Expr → Bool
  | .Call (.Name _ _) [] [] _ => false
  | _ => true
theorem plainB_ok {e : Expr} (h : plainB e = true) (f : Str) (env : PySem.Env) : attributeBase e f env (eval e env) = eval e env := by
  unfold plainB at h
  split at h
  · cases h
  · rename_i z
    unfold attributeBase
    split
    · exact absurd rfl (z _ _ _)
    · rfl
def noSet : Expr → Bool
  | .Set _ _ _ => false
  | _ => true
theorem noSet_mark {b : Expr} (h : noSet b = true) (op : CmpOp) : behindInMarks op b = false := by
  cases b <;> first | rfl | cases h
theorem noSet_fold {e : Expr} (h : noSet e = true) (env : PySem.Env) (x : Value) : foldedSetIterable e env x = pure x := by
  cases e <;> first | rfl | cases h
def byVal : Expr → Bool
  | .BoolOp _ _ _ => false
  | .UnaryOp _ _ _ => false
  | .Compare _ _ _ _ => false
  | .IfExp _ _ _ _ => false
  | .NamedExpr _ _ _ => false
  | _ => true
structure Md where
  P : Program
  w : World
  mg : Str → Option Value
  base : Heap
  G : Env
  T : Tx
  fa : Nat → Addr
  fd : Nat → FuncData
  fp : Nat → List Str
  tb : Tb
def spM (M : Md) (d f : Nat) : Sp := fun vs H Q E => vs.length = (M.fp f).length ∧ ∃ ρ h ws, Sim M.G ρ h H ∧ RVs M.G ρ h.n H ws vs ∧ Ans M.G ρ h H (run M.T d f ws h) (PQ M.G Q) E
def lv (d : Nat) : Nat := 2 * d
structure Md.Ok (M : Md) : Prop where
  cons : ∀ x w, M.tb.cons.lookup x = some w → ∃ u v, M.mg x = some u ∧ RelV v u ∧ ∀ ρ n H, RV M.G ρ n H w v
  funs : ∀ x f, M.tb.funs.lookup x = some f → M.mg x = some (.ref (M.fa f)) ∧ PySem.W.keepIn M.G.K (.ref (M.fa f)) = true ∧ ∃ F, M.T.fn f = some F
  ps : ∀ f F, M.T.fn f = some F → (M.fp f).length = F.ps
  binds : ∀ f F, M.T.fn f = some F → Binds M.G.K (M.fd f) (M.fp f) []
  clss : ∀ x c, M.tb.clss.lookup x = some c → M.mg x = some (.ref (M.G.ca c)) ∧ ∃ f F, M.T.inits.lookup c = some f ∧ M.T.fn f = some F
  cls : ∀ c, c ∈ M.T.cl → Cls M.G.K (M.G.ca c)
  mak : ∀ c f, M.T.inits.lookup c = some f → Mk M.G.K (M.G.ca c) (M.fa f)
  meth : ∀ c m f, methOf M.T.meths c m = some f → c ∈ M.T.cl ∧ m < M.T.nf ∧ Meth M.G.K (M.G.ca c) (M.G.fn m) (M.fa f) ∧ ∃ F, M.T.fn f = some F
  attr : ∀ c f, (c, f) ∈ M.T.goods → NoAttr M.G.K (M.G.ca c) (M.G.fn f)
  excs : ∀ x c, M.tb.excs.lookup x = some c → M.mg x = some (.ref (M.G.ca c)) ∧ PySem.W.excIn M.G.K (M.G.ca c) He.veBase "ValueError.__new__" = true ∧ PySem.W.keepIn M.G.K (.ref (M.G.ca c)) = true ∧ PySem.W.subIn M.G.K (.ref (M.G.ca c)) (.type "BaseException") = some true ∧ PySem.W.typeIn M.G.K (.ref (M.G.ca c)) = some (.type "type")
  nams : ∀ x, x ∈ M.tb.nams → ∃ c, M.mg x = some c
  gone : ∀ f, f ∈ M.tb.gone → M.T.fn f = none
  goneC : ∀ c, c ∈ M.tb.goneC → M.T.inits.lookup c = none
  blt : ∀ x, x ∈ bltNames → M.mg x = none
  nf : M.G.nf = M.T.nf
  fn : ∀ i, M.G.fn i = M.tb.flds.getD i ""
  inj : ∀ i j, i < M.T.nf → j < M.T.nf → M.G.fn i = M.G.fn j → i = j
structure Dt where
  N : List Str
  sc : Scope
def kd (D : Dt) (x : Str) : Option NameKind := D.sc.names.lookup x
structure Ctx (M : Md) (d : Nat) (D : Dt) (E : XK) (X : Cx) : Prop where
  prog : X.prog = M.P
  w : X.w = M.w
  K : X.K = M.G.K
  mg : X.mg = M.mg
  base : X.base = M.base
  N : X.N = D.N
  nd : D.N.Nodup
  sc : ∀ x k, kd D x = some k → X.env.scope.names.lookup x = some k ∨ (k = .free ∧ X.env.scope.names.lookup x = some .cell)
  kind : X.env.scope.kind = .function
  calm : X.calm = true
  hu : X.A.units + 70 < cLine
  room : Room (lv d + 1) X.A
  tk : Takes X (fun cls d _ H => E cls d H)
  fnc : ∀ x, kd D x = some .cell → X.fn x = true
  fns : ∀ f F, M.T.fn f = some F → FnOk M.P M.w M.G.K M.mg M.base (L2.CX M.P M.w) (lv d) (M.fa f) (M.fd f) (M.fp f) (spM M d f)
  ok : M.Ok
def RS (G : Env) (ρ : Nat → Addr) (n : Nat) (H : Hp) (σ : List (Option W)) (τ : L2.St) : Prop := σ.length = τ.length ∧ ∀ (i : Nat) (w : W), σ[i]? = some (some w) → ∃ v : V, τ[i]? = some (some v) ∧ RV G ρ n H w v
section
variable {G : Env} {ρ ρ' : Nat → Addr} {n n' : Nat} {H H' : Hp} {σ : List (Option W)} {τ : L2.St}
theorem RS.ext (e : Ext ρ n H ρ' n' H') (r : RS G ρ n H σ τ) : RS G ρ' n' H' σ τ := ⟨r.1, fun i w h => let ⟨v, h1, h2⟩ := r.2 i w h; ⟨v, h1, RV.ext e w v h2⟩⟩
theorem RS.set (r : RS G ρ n H σ τ) {w : W} {v : V} (rv : RV G ρ n H w v) (i : Nat) : RS G ρ n H (σ.set i (some w)) (τ.set i (some v)) := by
  refine ⟨by rw [List.length_set, List.length_set]; exact r.1, fun j x h => ?_⟩
  by_cases e : i = j
  · subst e
    by_cases hi : i < σ.length
    · rw [List.getElem?_set_self hi] at h
      cases h
      exact ⟨v, List.getElem?_set_self (by rw [← r.1]; exact hi), rv⟩
    · rw [List.getElem?_eq_none (by rw [List.length_set]; omega)] at h
      cases h
  · rw [List.getElem?_set_ne e] at h
    obtain ⟨y, h1, h2⟩ := r.2 j x h
    exact ⟨y, by rw [List.getElem?_set_ne e]; exact h1, h2⟩
end
end Mn
end
section
set_option Elab.async false
set_option linter.all false
set_option maxRecDepth 100000
set_option maxHeartbeats 4000000
namespace Mn
open PySem PySem.Spec PyProof.Rows L2
def nameOk (x : Str) : Bool := !(x == ("__debug__" : Str)) && !(x == ("__classdict__" : Str)) && !decide (x = "__name__")
def visK : Option NameKind → Bool
  | some .local => true | some .cell => true | some .free => true | _ => false
def locK : Option NameKind → Bool
  | some .local => true | some .cell => true | _ => false
def glbK : Option NameKind → Bool
  | some .globalImplicit => true | _ => false
def conC : W → Const → Bool
  | .non, .none => true
  | .bl a, .bool b => a == b
  | .int i, .int j => decide (i = j)
  | .str s, .str t => decide (s = t)
  | _, _ => false
def isNon : Ex → Bool
  | .con .non => true
  | _ => false
def isZero : Ex → Bool
  | .con (.int 0) => true
  | _ => false
def isYes : Ex → Bool
  | .con (.bl true) => true
  | _ => false
def biN : BI → Option Str
  | .len => some "len" | .abs => some "abs" | .min => some "min" | .max => some "max" | .sum => some "sum" | .any => some "any" | .all => some "all" | .sorted => some "sorted"
  | .int => some "int" | .str => some "str" | .list => some "list" | .tuple => some "tuple" | .dict => some "dict"
  | _ => none
def isTy : BI → Option TyT
  | .islist => some .lst | .isbool => some .bl | .isint => some .int | .isstr => some .str
  | _ => none
section
variable (B : Tb)
def ckN (D : Dt) (i : Nat) (e : Expr) : Bool := match asName e with
  | some x => decide (D.N[i]? = some x) && locK (kd D x)
  | none => false
def ckNs (D : Dt) : List Nat → List Expr → Bool
  | [], [] => true
  | i :: is, e :: es => ckN D i e && ckNs D is es
  | _, _ => false
def ckT (D : Dt) (t : Tg) (e : Expr) : Bool := match t with
  | .one i => ckN D i e
  | .row is => (match asTup e with
    | some es => ckNs D is es
    | none => false)
def slotsT : Tg → List Nat
  | .one i => [i]
  | .row is => is
def isTupE (e : Expr) : Bool := (asTup e).isSome
def ckB (D : Dt) (bl : List Str) (x : Str) : Bool := glbK (kd D x) && nameOk x && decide (x ∈ bl)
mutual
def ckE : Ex → Dt → Expr → Bool
  | .loc i, D, e => (match asName e with
    | some x => decide (D.N[i]? = some x) && visK (kd D x) && nameOk x
    | none => false)
  | .con w, D, e => (match asConst e with
    | some c => conC w c
    | none => (match asName e with
      | some x => glbK (kd D x) && nameOk x && (match B.cons.lookup x with
        | some w' => W.same w w'
        | none => false)
      | none => false))
  | .bin o a b, D, e => (match asBin e with
    | some (p, x, y) => decide (p = bop o) && ckE a D x && ckE b D y
    | none => false)
  | .neg a, D, e => (match asNeg e with
    | some x => ckE a D x
    | none => false)
  | .cmp o a b, D, e => (match asCmp e with
    | some (p, x, y) => decide (p = cop o) && noSet y && ckE a D x && ckE b D y
    | none => false)
  | .cmp2 o p a b c, D, e => (match asCmp2 e with
    | some (o', p', x, y, z) => decide (o' = cop o) && decide (p' = cop p) && noSet z && ckE a D x && ckE b D y && ckE c D z
    | none => false)
  | .and a b, D, e => (match asAnd e with
    | some (x, y) => ckE a D x && ckE b D y
    | none => false)
  | .or a b, D, e => (match asOr e with
    | some (x, y) => ckE a D x && ckE b D y
    | none => false)
  | .not a, D, e => (match asNot e with
    | some x => ckE a D x
    | none => false)
  | .tup es, D, e => (match asTup e with
    | some xs => xs.all notStar && ckEs es D xs
    | none => false)
  | .lst es, D, e => (match asLst e with
    | some xs => xs.all notStar && ckEs es D xs
    | none => false)
  | .dict _, _, e => asDict0 e
  | .disp es, D, e => (match asDisp e with
    | some (ks, vs) => ckEs es D (inter ks vs)
    | none => false)
  | .attr a f, D, e => (match asAttr e with
    | some (x, m) => decide (B.flds[f]? = some m) && plainB x && ckE a D x
    | none => false)
  | .sub a b, D, e => (match asSub e with
    | some (x, y) => ckE a D x && ckE b D y
    | none => false)
  | .cut a l u, D, e => (match asCut e with
    | some (x, lo, hi) => ckE a D x && (match lo with
        | some y => !isNon l && ckE l D y
        | none => isNon l) && (match hi with
        | some y => !isNon u && ckE u D y
        | none => isNon u)
    | none => false)
  | .call f es, D, e => (match asCallN e with
    | some (x, xs) => decide (f ∈ B.gone) || (glbK (kd D x) && nameOk x && decide (B.funs.lookup x = some f) && xs.all notStar && ckEs es D xs)
    | none => false)
  | .meth o m es, D, e => (match asCallA e with
    | some (x, k, xs) => decide (B.flds[m]? = some k) && plainB x && xs.all notStar && decide (xs.length < 30) && ckE o D x && ckEs es D xs
    | none => false)
  | .make c es, D, e => (match asCallN e with
    | some (x, xs) => decide (c ∈ B.goneC) || (glbK (kd D x) && nameOk x && decide (B.clss.lookup x = some c) && xs.all notStar && ckEs es D xs)
    | none => false)
  | .bi f es, D, e => (match asCallN e with
    | some (x, xs) => (match biN f with
      | some y => decide (x = y) && ckB D bltNames x && xs.all notStar && !xs.isEmpty && ckEs es D xs
      | none => (match es with
        | .cons a .nil => (match isTy f with
          | some T => (match xs with
            | [y, z] => decide (x = "isinstance") && ckB D bltNames x && notStar y && notStar z && ckE a D y && (match asName z with
              | some n => decide (n = (tyN T : Str)) && ckB D bltNames n
              | none => false)
            | _ => false)
          | none => (match f with
            | .lenset => (match xs with
              | [y] => decide (x = "len") && ckB D bltNames x && (match asCallN y with
                | some (n, [z]) => decide (n = "set") && ckB D bltNames n && notStar z && ckE a D z
                | _ => false)
              | _ => false)
            | .listrev => (match xs with
              | [y] => decide (x = "list") && ckB D bltNames x && (match asCallN y with
                | some (n, [z]) => decide (n = "reversed") && ckB D bltNames n && notStar z && ckE a D z
                | _ => false)
              | _ => false)
            | .listitems => (match xs with
              | [y] => decide (x = "list") && ckB D bltNames x && (match asCallA y with
                | some (o, n, []) => decide (n = "items") && plainB o && ckE a D o
                | _ => false)
              | _ => false)
            | _ => false))
        | _ => false))
    | none => false)
  | .bm m o es, D, e => (match asCallA e with
    | some (x, k, xs) => decide (k = bmN m) && plainB x && xs.all notStar && decide (xs.length < 30) && ckE o D x && ckEs es D xs
    | none => false)
  | .comp e t it c, D, x => (match asLC x with
    | some (elt, tg, iter, cond, sc) => blkC D.N D.sc sc ((slotsT t).map fun i => (D.N.getD i "", i)) && ckT ⟨D.N, sc⟩ t tg && noSet iter && ckI it D (isTupE tg) iter && ckE e ⟨D.N, sc⟩ elt && (match cond with
        | none => isYes c
        | some y => ckE c ⟨D.N, sc⟩ y)
    | none => false)
  | .no, _, _ => true
def ckEs : Exs → Dt → List Expr → Bool
  | .nil, _, [] => true
  | .cons e es, D, x :: xs => ckE e D x && ckEs es D xs
  | _, _, _ => false
def ckI : It → Dt → Bool → Expr → Bool
  | .val e, D, _, x => ckE e D x
  | .rng a b, D, _, x => (match asCallN x with
    | some (n, [y]) => decide (n = "range") && ckB D bltNames n && notStar y && isZero a && ckE b D y
    | some (n, [y, z]) => decide (n = "range") && ckB D bltNames n && notStar y && notStar z && ckE a D y && ckE b D z
    | _ => false)
  | .enum e, D, t, x => (match asCallN x with
    | some (n, [y]) => t && decide (n = "enumerate") && ckB D bltNames n && notStar y && ckE e D y
    | _ => false)
  | .zip a b, D, t, x => (match asCallN x with
    | some (n, [y, z]) => t && decide (n = "zip") && ckB D bltNames n && notStar y && notStar z && ckE a D y && ckE b D z
    | _ => false)
end
end
end Mn
end
section
set_option Elab.async false
set_option linter.all false
set_option maxRecDepth 100000
set_option maxHeartbeats 4000000
namespace Mn
open PySem PySem.Spec PyProof.Rows L2
mutual
theorem same_eq : ∀ x y : W, W.same x y = true → x = y
  | .non, y, h => by cases y <;> first | rfl | cases h
  | .bl a, y, h => by
    cases y <;> first
      | cases h; done
      | exact congrArg W.bl (eq_of_beq h)
  | .int a, y, h => by
    cases y <;> first
      | cases h; done
      | exact congrArg W.int (of_decide_eq_true h)
  | .str a, y, h => by
    cases y <;> first
      | cases h; done
      | exact congrArg W.str (of_decide_eq_true h)
  | .ref a, y, h => by
    cases y <;> first
      | cases h; done
      | exact congrArg W.ref (Nat.eq_of_beq_eq_true h)
  | .tup xs, y, h => by
    cases y with
    | tup ys => exact congrArg W.tup (sames_eq xs ys h)
    | _ => cases h
  | .ktup xs, y, h => by
    cases y with
    | ktup ys => exact congrArg W.ktup (sames_eq xs ys h)
    | _ => cases h
  | .klst xs, y, h => by
    cases y with
    | klst ys => exact congrArg W.klst (sames_eq xs ys h)
    | _ => cases h
theorem sames_eq : ∀ xs ys : List W, sames xs ys = true → xs = ys
  | [], ys, h => by
    cases ys with
    | nil => rfl
    | cons y ys => cases h
  | x :: xs, ys, h => by
    cases ys with
    | nil => cases h
    | cons y ys =>
      have h' : (W.same x y && sames xs ys) = true := h
      rw [Bool.and_eq_true] at h'
      rw [same_eq x y h'.1, sames_eq xs ys h'.2]
end
theorem nameOk_ok {x : Str} (h : nameOk x = true) : (x == ("__debug__" : Str)) = false ∧ (x == ("__classdict__" : Str)) = false ∧ x ≠ "__name__" := by
  unfold nameOk at h
  rw [Bool.and_eq_true, Bool.and_eq_true] at h
  exact ⟨by simpa using h.1.1, by simpa using h.1.2, by simpa using h.2⟩
section
variable {M : Md} {d : Nat} {D : Dt} {E : XK} {X : Cx}
theorem Ctx.gl (C : Ctx M d D E X) {x : Str} (h : glbK (kd D x) = true) : Gl X x := by
  unfold glbK at h
  split at h
  · rename_i q
    rcases C.sc x _ q with z | ⟨z, _⟩
    · exact z
    · cases z
  · cases h
theorem Ctx.vis (C : Ctx M d D E X) {x : Str} (h : visK (kd D x) = true) : Vis X.env.scope x := by
  unfold visK at h
  split at h <;> first
    | cases h; done
    | (rename_i q
       rcases C.sc x _ q with z | ⟨z, z2⟩
       · first | exact .inl z | exact .inr (.inl z) | exact .inr (.inr z)
       · first | cases z; done | exact .inr (.inl z2))
theorem Ctx.loc (C : Ctx M d D E X) {x : Str} (h : locK (kd D x) = true) : Loc X.env.scope x ∧ (X.fn x = true ∨ X.env.scope.names.lookup x = some .local) := by
  unfold locK at h
  split at h <;> first
    | cases h; done
    | (rename_i q
       rcases C.sc x _ q with z | ⟨z, z2⟩
       · first | exact ⟨.inl z, .inr z⟩ | exact ⟨.inr z, .inl (C.fnc x q)⟩
       · cases z)
theorem Ctx.blt (C : Ctx M d D E X) {x : Str} (h : ckB D bltNames x = true) : Gl X x ∧ X.mg x = none ∧ (x == ("__debug__" : Str)) = false ∧ x ≠ "__name__" := by
  unfold ckB at h
  rw [Bool.and_eq_true, Bool.and_eq_true] at h
  obtain ⟨h1, h2, h3⟩ := nameOk_ok h.1.2
  exact ⟨C.gl h.1.1, by rw [C.mg]; exact C.ok.blt x (of_decide_eq_true h.2), h1, h3⟩
theorem assign_len (env : PySem.Env) : ∀ es : List Expr, (assignEach es env).length = es.length
  | [] => rfl
  | e :: es => by
    cases e <;> (show (assignEach es env).length + 1 = es.length + 1; rw [assign_len env es])
theorem ckNs_facts (D : Dt) (env : PySem.Env) : ∀ (is : List Nat) (es : List Expr), ckNs D is es = true → is.length = es.length ∧ (assignEach es env).findIdx? (·.1) = none
  | [], [], _ => ⟨rfl, rfl⟩
  | [], _ :: _, h => by cases h
  | _ :: _, [], h => by cases h
  | i :: is, e :: es, h => by
    have h' : (ckN D i e && ckNs D is es) = true := h
    rw [Bool.and_eq_true] at h'
    obtain ⟨h1, h2⟩ := ckNs_facts D env is es h'.2
    refine ⟨by rw [List.length_cons, List.length_cons, h1], ?_⟩
    have h3 := h'.1
    unfold ckN at h3
    split at h3
    · rename_i x q
      obtain ⟨p, rfl⟩ := asName_eq q
      show List.findIdx? _ ((false, assign (.Name x p) env) :: assignEach es env) = none
      rw [List.findIdx?_cons]
      simp [h2]
    · cases h3
theorem pgN (C : Ctx M d D E X) {i : Nat} {e : Expr} (h : ckN D i e = true) : PG X e (gName i) := by
  unfold ckN at h
  split at h
  · rename_i x q
    rw [Bool.and_eq_true] at h
    obtain ⟨p, rfl⟩ := asName_eq q
    obtain ⟨h1, h2⟩ := C.loc h.2
    exact pg_name (by rw [C.N]; exact C.nd) (by rw [C.N]; exact of_decide_eq_true h.1) h1 h2
  · cases h
def gSlots : List Nat → TGs
  | [] => gNil
  | i :: is => gCons (gName i) (gSlots is)
theorem pgNs (C : Ctx M d D E X) : ∀ {is : List Nat} {es : List Expr}, ckNs D is es = true → PGs X es (gSlots is)
  | [], [], _ => pgs_nil
  | [], _ :: _, h => by cases h
  | _ :: _, [], h => by cases h
  | i :: is, e :: es, h => by
    have h' : (ckN D i e && ckNs D is es) = true := h
    rw [Bool.and_eq_true] at h'
    refine pgs_cons (pgN C h'.1) (pgNs C h'.2) ?_
    have h3 := h'.1
    unfold ckN at h3
    split at h3
    · rename_i x q
      obtain ⟨p, rfl⟩ := asName_eq q
      rfl
    · cases h3
def gT (K : PySem.W.Frag) : Tg → TG
  | .one i => gName i
  | .row is => fun v σ H Q => gTup K is.length (gSlots is) v σ H Q ∨ gUnl K is.length (gSlots is) v σ H Q
theorem pgT (C : Ctx M d D E X) {t : Tg} {e : Expr} (h : ckT D t e = true) : PG X e (gT X.K t) := by
  cases t with
  | one i => exact pgN C h
  | row is =>
    unfold ckT at h
    dsimp only at h
    split at h
    · rename_i es q
      obtain ⟨k, p, rfl⟩ := asTup_eq q
      obtain ⟨h1, h2⟩ := ckNs_facts D X.env is es h
      have p1 : PG X (.Tuple es k p) (gTup X.K is.length (gSlots is)) := pg_tup C.calm (pgNs C h) (by rw [assign_len]; exact h1.symm) h2
      have p2 : PG X (.Tuple es k p) (gUnl X.K is.length (gSlots is)) := pg_unl C.calm (pgNs C h) (by rw [assign_len]; exact h1.symm) h2
      exact ⟨fun pins s σ H v u Q I r hw => hw.elim (p1.run pins s σ H v u Q I r) (p2.run pins s σ H v u Q I r)⟩
    · cases h
def setV : List Nat → List V → L2.St → L2.St
  | i :: is, v :: vs, τ => setV is vs (τ.set i (some v))
  | _, _, τ => τ
theorem gSlots_set : ∀ {is : List Nat} {vs : List V} {τ : L2.St} {H : Hp} {Q : L2.St → Hp → Prop}, vs.length = is.length → Q (setV is vs τ) H → gSlots is vs τ H Q
  | [], [], _, _, _, _, q => ⟨rfl, q⟩
  | [], _ :: _, _, _, _, h, _ => by cases h
  | _ :: _, [], _, _, _, h, _ => by cases h
  | i :: is, v :: vs, _, _, _, h, q => ⟨v, vs, rfl, gSlots_set (Nat.succ.inj h) q⟩
end
section
variable {G : Env} {ρ : Nat → Addr} {n : Nat} {H : Hp} {σ : List (Option W)} {τ : L2.St}
theorem RS.setAll : ∀ {is : List Nat} {ws : List W} {vs : List V} {σ : List (Option W)} {τ : L2.St}, RS G ρ n H σ τ → RVs G ρ n H ws vs → RS G ρ n H (setSlots is ws σ) (setV is vs τ)
  | [], _, _, _, _, r, _ => r
  | i :: is, [], vs, _, _, r, rv => by cases (show vs = [] from rv); exact r
  | i :: is, w :: ws, vs, _, _, r, rv => by
    obtain ⟨y, q, rfl, h2, h3⟩ : ∃ y r, vs = y :: r ∧ RV G ρ n H w y ∧ RVs G ρ n H ws r := rv
    exact RS.setAll (is := is) (ws := ws) (vs := q) (RS.set r h2 i) h3
def stV (t : Tg) (ws : List W) (vs : List V) (v : V) (τ : L2.St) : L2.St := match t with
  | .one i => τ.set i (some v)
  | .row is => setV is vs τ
theorem row_vals {K : PySem.W.Frag} (hK : K = G.K) {h : Hm} (S : Sim G ρ h H) {is : List Nat} {w : W} {v : V} {σ' : List (Option W)} (rv : RV G ρ h.n H w v) (e : store (.row is) w σ h = some σ') :
    ∃ ws ys, σ' = setSlots is ws σ ∧ RVs G ρ h.n H ws ys ∧ ys.length = is.length ∧ ∀ (τ : L2.St) (Q : L2.St → Hp → Prop), Q (setV is ys τ) H → gT K (.row is) v τ H Q := by
  subst hK
  have tup : ∀ {ws : List W} {t : Addr} {ys : List V}, v = .ref t → SqT G.K H t ys → RVs G ρ h.n H ws ys → (if ws.length = is.length then some (setSlots is ws σ) else none) = some σ' →
      ∃ ws ys, σ' = setSlots is ws σ ∧ RVs G ρ h.n H ws ys ∧ ys.length = is.length ∧ ∀ (τ : L2.St) (Q : L2.St → Hp → Prop), Q (setV is ys τ) H → gT G.K (.row is) v τ H Q := fun {ws t ys} hv hq hr he => by
    split at he
    · rename_i hl
      cases he
      have hl' : ys.length = is.length := by rw [← hr.length]; exact hl
      exact ⟨ws, ys, rfl, hr, hl', fun τ Q q => .inl ⟨t, ys, hv, hq, hl', gSlots_set hl' q⟩⟩
    · cases he
  have lst : ∀ {ws : List W}, rdL w h = some ws → (if ws.length = is.length then some (setSlots is ws σ) else none) = some σ' →
      ∃ ws ys, σ' = setSlots is ws σ ∧ RVs G ρ h.n H ws ys ∧ ys.length = is.length ∧ ∀ (τ : L2.St) (Q : L2.St → Hp → Prop), Q (setV is ys τ) H → gT G.K (.row is) v τ H Q := fun {ws} hr0 he => by
    obtain ⟨t, ys, hv, hq, hr⟩ := rdL_ok S rv hr0
    split at he
    · rename_i hl
      cases he
      have hl' : ys.length = is.length := by rw [← hr.length]; exact hl
      exact ⟨ws, ys, rfl, hr, hl', fun τ Q q => .inr ⟨t, ys, hv, hq, hl', gSlots_set hl' q⟩⟩
    · cases he
  cases w with
  | tup ws =>
    obtain ⟨t, ys, hv, h1, h2⟩ := rv.tup
    exact tup hv (SqT.of h1) h2 e
  | ktup ws =>
    obtain ⟨t, ys, hv, h1, h2⟩ := rv.ktup
    exact tup hv h1 h2 e
  | klst ws => exact lst (ws := ws) rfl e
  | ref a =>
    have e' : (match rdL (.ref a) h with
      | some ws => if ws.length = is.length then some (setSlots is ws σ) else none
      | none => none) = some σ' := e
    split at e'
    · rename_i ws hw
      exact lst hw e'
    · cases e'
  | _ => cases (show none = some σ' from e)
theorem store_ok {K : PySem.W.Frag} (hK : K = G.K) {t : Tg} {w : W} {v : V} {h : Hm} {σ' : List (Option W)} (S : Sim G ρ h H) (r : RS G ρ h.n H σ τ) (rv : RV G ρ h.n H w v) (e : store t w σ h = some σ') :
    ∃ τ', RS G ρ h.n H σ' τ' ∧ ∀ Q, Q τ' H → gT K t v τ H Q := by
  cases t with
  | one i =>
    cases (show some (σ.set i (some w)) = some σ' from e)
    exact ⟨τ.set i (some v), r.set rv i, fun Q q => q⟩
  | row is =>
    obtain ⟨ws, ys, rfl, h1, h2, h3⟩ := row_vals hK S rv e
    exact ⟨setV is ys τ, r.setAll h1, fun Q q => h3 τ Q q⟩
end
end Mn
end
section
set_option Elab.async false
set_option linter.all false
set_option maxRecDepth 100000
set_option maxHeartbeats 4000000
namespace Mn
open PySem PySem.Spec PyProof.Rows L2
variable {G : Env} {ρ ρ' : Nat → Addr} {n n' : Nat} {H H' : Hp} {h h' : Hm}
def Wk (G : Env) (J : L2.It) (p : Plan) (ρ0 : Nat → Addr) (h0 : Hm) (H0 : Hp) : Prop := ∀ ρ h H i, Nx ρ0 h0 H0 ρ h H → Sim G ρ h H → stays h p.gd = true →
  (p.xs[i]? = none → J.stop i H) ∧ ∀ w, p.xs[i]? = some w → J.go i H ∧ ∀ x H', J.yld i H x H' → Nx ρ h H ρ h H' ∧ Sim G ρ h H' ∧ RV G ρ h.n H' w x
def wPI (X : Cx) (tg iter : Expr) : TI := fun σ H R => ∀ pins s, Inv X pins σ H s → wpAny (model X.prog X.w) X.A (eval iter X.env) (fun v s1 => wpAny (model X.prog X.w) X.A (pyIter v) (PIE X pins σ tg R) X.xe s1) X.xe s
theorem piW {X : Cx} {tg iter : Expr} : PI X tg iter (wPI X tg iter) := ⟨fun pins s σ H R I h => h pins s I⟩
theorem PI.to {X : Cx} {tg iter : Expr} {t : TI} (p : PI X tg iter t) {σ : L2.St} {H : Hp} {R : L2.It → Hp → Prop} (h : t σ H R) : wPI X tg iter σ H R := fun pins s I => p.run pins s σ H R I h
def Wv (K : PySem.W.Frag) (x : V) (H1 : Hp) (R : L2.It → Hp → Prop) : Prop :=
  (∃ a xs, x = .ref a ∧ SqL K H1 a xs ∧ R (Itl K a) H1) ∨ (∃ a xs, x = .ref a ∧ SqT K H1 a xs ∧ R (Itt K a) H1) ∨ (∃ z, x = .str z ∧ R (Its z) H1) ∨
  (∃ d o kvs, x = .ref d ∧ H1 d = some (.frz o (.dK kvs)) ∧ R (Itk d o kvs) H1) ∨ ∃ d o kvs, x = .ref d ∧ H1 d = some (.frz o (.dT kvs)) ∧ R (Itkt d o kvs) H1
theorem wPI_val {X : Cx} {tg e : Expr} {σ : L2.St} {R : L2.It → Hp → Prop} (he : wE X e σ H fun x H1 => Wv X.K x H1 R) : wPI X tg e σ H R := fun pins s I => by
  refine thn (he pins s I) fun v s1 ⟨x, H1, I1, r1, q⟩ => ?_
  rcases q with ⟨a, xs, rfl, hq, q⟩ | ⟨a, xs, rfl, hq, q⟩ | ⟨z, rfl, q⟩ | ⟨d, o, kvs, rfl, hd, q⟩ | ⟨d, o, kvs, rfl, hd, q⟩
  · cases r1
    obtain ⟨its, rv, p, hz⟩ := I1.list hq
    refine wpAny_pyIter_list p.isList ?_
    refine ⟨s1.heap.objs.size, [s1.heap.objs.size], _, _, H1, rfl, I1.kept (t' := s1.toks) fun b o e => Heap.get?_push_of_some _ e, turn_list a _, ⟨_, Heap.get?_push_size _ rfl, rfl, rfl⟩, fun b hb => ?_, q⟩
    have e : b = s1.heap.objs.size := by simpa using hb
    subst e
    exact I1.fpOk (Nat.le_refl _) (I1.hok.fresh (Nat.le_refl _))
  · cases r1
    obtain ⟨its, rv, p, hz⟩ := I1.tuple hq
    refine wpAny_pyIter_tuple (show s1.heap.IsTuple a its.toArray from p) ?_
    refine ⟨s1.heap.objs.size, [s1.heap.objs.size], _, _, H1, rfl, I1.kept (t' := s1.toks) fun b o e => Heap.get?_push_of_some _ e, turn_tuple a _, ⟨_, Heap.get?_push_size _ rfl, rfl, rfl⟩, fun b hb => ?_, q⟩
    have e : b = s1.heap.objs.size := by simpa using hb
    subst e
    exact I1.fpOk (Nat.le_refl _) (I1.hok.fresh (Nat.le_refl _))
  · obtain ⟨t, rfl⟩ := r1
    cases ha : z.cps.all (· < 128)
    · exact wpAny_pyIter_wide ha (pi_one (tk := s1.toks) I1 _ (turn_str _ z t "str_iterator" (.inr rfl)) ⟨_, Heap.get?_push_size _ rfl, rfl, rfl⟩ q)
    · exact wpAny_pyIter_ascii ha (pi_one (tk := s1.toks) I1 _ (turn_str _ z t "str_ascii_iterator" (.inl rfl)) ⟨_, Heap.get?_push_size _ rfl, rfl, rfl⟩ q)
  · obtain rfl : v = Value.ref d := r1
    obtain ⟨hs, hgd, hx, es, ep, vs, hdt, hsz, kv, hm⟩ := I1.frzK hd
    refine iter_keys hs hgd hx hdt (pi_one (tk := s1.toks) I1 _ (turn_keys _ hdt) ⟨_, Heap.get?_push_size _ rfl, rfl, ?_⟩ q)
    rw [hsz] <;> rfl
  · obtain rfl : v = Value.ref d := r1
    obtain ⟨hs, hgd, hx, es, ep, hdt, hsz, ent⟩ := I1.frzT hd
    refine iter_keys hs hgd hx hdt (pi_one (tk := s1.toks) I1 _ (turn_keysT _ hdt) ⟨_, Heap.get?_push_size _ rfl, rfl, ?_⟩ q)
    rw [hsz] <;> rfl
theorem RVs.none {xs : List W} {ys : List V} {i : Nat} (r : RVs G ρ n H xs ys) (e : xs[i]? = none) : ys.length ≤ i := by
  rw [← r.length]
  exact List.getElem?_eq_none_iff.mp e
theorem list_at (S : Sim G ρ h H) {a : Nat} {xs : List W} (ha : a < h.n) (e : stays h [(a, xs)] = true) : ∃ ys, H (ρ a) = some (.lst ys) ∧ RVs G ρ h.n H xs ys := by
  have e' : ((match h.g a with
    | some (.lst ys) => sames xs ys
    | _ => false) && true) = true := e
  rw [Bool.and_true] at e'
  cases q : h.g a with
  | none => rw [q] at e'; cases e'
  | some o =>
    cases o with
    | lst zs =>
      rw [q] at e'
      have := sames_eq xs zs e'
      subst this
      exact S.lst ha q
    | _ => rw [q] at e'; cases e'
theorem wk_list {K : PySem.W.Frag} (hK : K = G.K) {a : Nat} {xs : List W} (ha : a < h.n) : Wk G (Itl K (ρ a)) ⟨xs, [(a, xs)]⟩ ρ h H := by
  subst hK
  intro ρ1 h1 H1 i N S e
  obtain ⟨ys, h2, h3⟩ := list_at S (Nat.lt_of_lt_of_le ha N.ext.le) e
  rw [N.ext.ag a ha] at h2
  refine ⟨fun q => ⟨ys, SqL.of h2, h3.none q⟩, fun w q => ?_⟩
  obtain ⟨y, h4, h5⟩ := h3.get q
  refine ⟨⟨ys, y, SqL.of h2, h4⟩, fun x H' hy => ?_⟩
  obtain ⟨rfl, hx⟩ := hy
  have := hx ys (SqL.of h2)
  rw [h4] at this
  cases this
  exact ⟨Nx.refl, S, h5⟩
theorem wk_klst {K : PySem.W.Frag} (hK : K = G.K) {a : Addr} {xs : List W} {ys : List V} (hf : Fz G H a ys) (hr : RVs G ρ h.n H xs ys) : Wk G (Itl K a) ⟨xs, []⟩ ρ h H := by
  subst hK
  intro ρ1 h1 H1 i N S e
  have h2 := (hf.ext N.ext).sq
  have h3 := RVs.ext N.ext _ _ hr
  refine ⟨fun q => ⟨ys, h2, h3.none q⟩, fun w q => ?_⟩
  obtain ⟨y, h4, h5⟩ := h3.get q
  refine ⟨⟨ys, y, h2, h4⟩, fun x H' hy => ?_⟩
  obtain ⟨rfl, hx⟩ := hy
  have := hx ys h2
  rw [h4] at this
  cases this
  exact ⟨Nx.refl, S, h5⟩
theorem wk_tup {K : PySem.W.Frag} (hK : K = G.K) {a : Addr} {xs : List W} {ys : List V} (hf : SqT G.K H a ys) (hr : RVs G ρ h.n H xs ys) : Wk G (Itt K a) ⟨xs, []⟩ ρ h H := by
  subst hK
  intro ρ1 h1 H1 i N S e
  have h2 := sqT_ext N.ext hf
  have h3 := RVs.ext N.ext _ _ hr
  refine ⟨fun q => ⟨ys, h2, h3.none q⟩, fun w q => ?_⟩
  obtain ⟨y, h4, h5⟩ := h3.get q
  refine ⟨⟨ys, y, h2, h4⟩, fun x H' hy => ?_⟩
  obtain ⟨rfl, hx⟩ := hy
  have := hx ys h2
  rw [h4] at this
  cases this
  exact ⟨Nx.refl, S, h5⟩
theorem wk_str {z : Str} : Wk G (Its z) ⟨strW z, []⟩ ρ h H := by
  intro ρ1 h1 H1 i N S e
  have sz : z.cps.toList.length = z.cps.size := Array.length_toList
  refine ⟨fun q => ?_, fun w q => ?_⟩
  · have q' := List.getElem?_eq_none_iff.mp q
    unfold strW at q'
    rw [List.length_map, sz] at q'
    exact q'
  · have q' : (z.cps.toList.map fun c => W.str ⟨#[c]⟩)[i]? = some w := q
    rw [List.getElem?_map] at q'
    obtain ⟨c, h4, h5⟩ := Option.map_eq_some_iff.mp q'
    have h6 : z.cps[i]? = some c := by rw [← Array.getElem?_toList]; exact h4
    refine ⟨(Array.getElem?_eq_some_iff.mp h6).1, fun x H' hy => ?_⟩
    obtain ⟨rfl, c', hc, rfl⟩ := hy
    rw [h6] at hc
    cases hc
    subst h5
    exact ⟨Nx.refl, S, rfl⟩
theorem rngL_at : ∀ (m : Nat) (lo : Int) (i : Nat), (rngL m lo)[i]? = if i < m then some (.int (lo + i)) else none
  | 0, lo, i => rfl
  | m + 1, lo, 0 => by
    show some (W.int lo) = _
    rw [if_pos (Nat.succ_pos _)]
    simp
  | m + 1, lo, i + 1 => by
    show (rngL m (lo + 1))[i]? = _
    rw [rngL_at m (lo + 1) i]
    by_cases z : i < m
    · rw [if_pos z, if_pos (by omega)]
      congr 2
      omega
    · rw [if_neg z, if_neg (by omega)]
theorem wk_rng {m : Nat} {lo : Int} : Wk G (Itr lo m) ⟨rngL m lo, []⟩ ρ h H := by
  intro ρ1 h1 H1 i N S e
  have z := rngL_at m lo i
  refine ⟨fun q => ?_, fun w q => ?_⟩
  · have q' : (rngL m lo)[i]? = none := q
    rw [z] at q'
    by_cases y : i < m
    · rw [if_pos y] at q'; cases q'
    · exact Nat.le_of_not_lt y
  · have q' : (rngL m lo)[i]? = some w := q
    rw [z] at q'
    by_cases y : i < m
    · rw [if_pos y] at q'
      cases q'
      refine ⟨y, fun x H' hy => ?_⟩
      obtain ⟨rfl, rfl⟩ := hy
      exact ⟨Nx.refl, S, rfl⟩
    · rw [if_neg y] at q'; cases q'
theorem enumL_at : ∀ (k : Nat) (xs : List W) (i : Nat), (enumL k xs)[i]? = xs[i]?.map fun x => .tup [.int ((k + i : Nat) : Int), x]
  | _, [], i => rfl
  | k, x :: xs, 0 => rfl
  | k, x :: xs, i + 1 => by
    show (enumL (k + 1) xs)[i]? = _
    rw [enumL_at (k + 1) xs i]
    show (xs[i]?.map fun x => W.tup [.int ((k + 1 + i : Nat) : Int), x]) = xs[i]?.map fun x => W.tup [.int ((k + (i + 1) : Nat) : Int), x]
    rw [show k + 1 + i = k + (i + 1) by omega]
def Ls (G : Env) (K : PySem.W.Frag) (a : Addr) (p : Plan) (ρ0 : Nat → Addr) (h0 : Hm) (H0 : Hp) : Prop := ∀ ρ h H, Nx ρ0 h0 H0 ρ h H → Sim G ρ h H → stays h p.gd = true → ∃ ys, SqL K H a ys ∧ RVs G ρ h.n H p.xs ys
theorem ls_list {K : PySem.W.Frag} {a : Nat} {xs : List W} (ha : a < h.n) : Ls G K (ρ a) ⟨xs, [(a, xs)]⟩ ρ h H := by
  intro ρ1 h1 H1 N S e
  obtain ⟨ys, h2, h3⟩ := list_at S (Nat.lt_of_lt_of_le ha N.ext.le) e
  rw [N.ext.ag a ha] at h2
  exact ⟨ys, SqL.of h2, h3⟩
theorem ls_klst {a : Addr} {xs : List W} {ys : List V} (hf : Fz G H a ys) (hr : RVs G ρ h.n H xs ys) : Ls G G.K a ⟨xs, []⟩ ρ h H := fun ρ1 h1 H1 N S e =>
  ⟨ys, (hf.ext N.ext).sq, RVs.ext N.ext _ _ hr⟩
theorem planL_ls (S : Sim G ρ h H) {w : W} {v : V} {p : Plan} (r : RV G ρ h.n H w v) (e : planL w h = some p) : ∃ a ys, v = .ref a ∧ SqL G.K H a ys ∧ Ls G G.K a p ρ h H := by
  cases w with
  | klst xs =>
    cases (show some (⟨xs, []⟩ : Plan) = some p from e)
    obtain ⟨t, ys, h1, h2, h3⟩ := r.klst
    exact ⟨t, ys, h1, h2.sq, ls_klst h2 h3⟩
  | ref a =>
    obtain ⟨ha, hv⟩ := r.ref
    cases q : h.g a with
    | none => simp [planL, q] at e
    | some o =>
      cases o with
      | lst zs =>
        simp only [planL, q] at e
        cases e
        obtain ⟨ys, h1, h2⟩ := S.lst ha q
        exact ⟨_, ys, hv, SqL.of h1, ls_list ha⟩
      | _ => simp [planL, q] at e
  | _ => cases (show none = some p from e)
theorem wk_enum {a : Addr} {p : Plan} (l : Ls G G.K a p ρ h H) : Wk G (Ite G.K a) { p with xs := enumL 0 p.xs } ρ h H := by
  intro ρ1 h1 H1 i N S e
  obtain ⟨ys, h2, h3⟩ := l ρ1 h1 H1 N S e
  refine ⟨fun q => ?_, fun w q => ?_⟩
  · have q' : (enumL 0 p.xs)[i]? = none := q
    rw [enumL_at] at q'
    exact ⟨ys, h2, h3.none (Option.map_eq_none_iff.mp q')⟩
  · have q' : (enumL 0 p.xs)[i]? = some w := q
    rw [enumL_at] at q'
    obtain ⟨x0, h4, rfl⟩ := Option.map_eq_some_iff.mp q'
    obtain ⟨y, h5, h6⟩ := h3.get h4
    refine ⟨⟨ys, y, h2, h5⟩, fun x H' hy => ?_⟩
    obtain ⟨T, z, rfl, hT, rfl, hz⟩ := hy
    have := hz ys h2
    rw [h5] at this
    cases this
    refine ⟨Nx.temp S hT, S.temp hT, T, _, rfl, upd_same, ⟨_, _, rfl, ?_, _, _, rfl, RV.ext (Ext.temp hT) _ _ h6, rfl⟩⟩
    show V.int (i : Nat) = V.int ((0 + i : Nat) : Int)
    rw [Nat.zero_add]
theorem zipL_at : ∀ (xs ys : List W) (i : Nat), (zipL xs ys)[i]? = (xs[i]?).bind fun x => ys[i]?.map fun y => .tup [x, y]
  | [], ys, i => by
    show ([] : List W)[i]? = _
    simp
  | x :: xs, [], i => by
    show ([] : List W)[i]? = _
    simp
  | x :: xs, y :: ys, 0 => rfl
  | x :: xs, y :: ys, i + 1 => by
    show (zipL xs ys)[i]? = _
    rw [zipL_at xs ys i]
    rfl
theorem stays_app : ∀ (g1 g2 : List (Nat × List W)), stays h (g1 ++ g2) = (stays h g1 && stays h g2)
  | [], g2 => rfl
  | (a, xs) :: g1, g2 => by
    show (_ && stays h (g1 ++ g2)) = ((_ && stays h g1) && stays h g2)
    rw [stays_app g1 g2, Bool.and_assoc]
theorem wk_zip {a b : Addr} {p q : Plan} (l : Ls G G.K a p ρ h H) (l2 : Ls G G.K b q ρ h H) : Wk G (Itz G.K a b) ⟨zipL p.xs q.xs, p.gd ++ q.gd⟩ ρ h H := by
  intro ρ1 h1 H1 i N S e
  have e' : stays h1 (p.gd ++ q.gd) = true := e
  rw [stays_app, Bool.and_eq_true] at e'
  obtain ⟨ys, h2, h3⟩ := l ρ1 h1 H1 N S e'.1
  obtain ⟨zs, k2, k3⟩ := l2 ρ1 h1 H1 N S e'.2
  refine ⟨fun z => ?_, fun w z => ?_⟩
  · have z' : (zipL p.xs q.xs)[i]? = none := z
    rw [zipL_at] at z'
    refine ⟨ys, zs, h2, k2, ?_⟩
    cases c : p.xs[i]? with
    | none => exact .inl (h3.none c)
    | some x0 =>
      rw [c] at z'
      exact .inr (k3.none (Option.map_eq_none_iff.mp z'))
  · have z' : (zipL p.xs q.xs)[i]? = some w := z
    rw [zipL_at] at z'
    obtain ⟨x0, h4, z2⟩ := Option.bind_eq_some_iff.mp z'
    obtain ⟨y0, k4, rfl⟩ := Option.map_eq_some_iff.mp z2
    obtain ⟨y, h5, h6⟩ := h3.get h4
    obtain ⟨u, k5, k6⟩ := k3.get k4
    refine ⟨⟨ys, zs, y, u, h2, k2, h5, k5⟩, fun x H' hy => ?_⟩
    obtain ⟨T, z, z3, rfl, hT, rfl, hz, hz2⟩ := hy
    have := hz ys h2
    rw [h5] at this
    cases this
    have := hz2 zs k2
    rw [k5] at this
    cases this
    exact ⟨Nx.temp S hT, S.temp hT, T, _, rfl, upd_same, ⟨_, _, rfl, RV.ext (Ext.temp hT) _ _ h6, _, _, rfl, RV.ext (Ext.temp hT) _ _ k6, rfl⟩⟩
theorem plan_ok {K : PySem.W.Frag} (hK : K = G.K) (S : Sim G ρ h H) {w : W} {v : V} {p : Plan} {R : L2.It → Hp → Prop} (r : RV G ρ h.n H w v) (e : plan w h = some p) (q : ∀ J, Wk G J p ρ h H → R J H) : Wv K v H R := by
  subst hK
  cases w with
  | str s =>
    cases (show some (⟨strW s, []⟩ : Plan) = some p from e)
    exact .inr (.inr (.inl ⟨s, r.str, q _ wk_str⟩))
  | tup xs =>
    cases (show some (⟨xs, []⟩ : Plan) = some p from e)
    obtain ⟨t, ys, h1, h2, h3⟩ := r.tup
    exact .inr (.inl ⟨t, ys, h1, SqT.of h2, q _ (wk_tup rfl (SqT.of h2) h3)⟩)
  | ktup xs =>
    cases (show some (⟨xs, []⟩ : Plan) = some p from e)
    obtain ⟨t, ys, h1, h2, h3⟩ := r.ktup
    exact .inr (.inl ⟨t, ys, h1, h2, q _ (wk_tup rfl h2 h3)⟩)
  | klst xs =>
    cases (show some (⟨xs, []⟩ : Plan) = some p from e)
    obtain ⟨t, ys, h1, h2, h3⟩ := r.klst
    exact .inl ⟨t, ys, h1, h2.sq, q _ (wk_klst rfl h2 h3)⟩
  | ref a =>
    obtain ⟨ha, hv⟩ := r.ref
    cases c : h.g a with
    | none => simp [plan, planL, c] at e
    | some o =>
      cases o with
      | lst zs =>
        simp only [plan, planL, c] at e
        cases e
        obtain ⟨ys, h1, h2⟩ := S.lst ha c
        exact .inl ⟨_, ys, hv, SqL.of h1, q _ (wk_list rfl ha)⟩
      | dK kvs =>
        simp only [plan, c] at e
        split at e
        · rename_i hl
          cases e
          obtain ⟨qs, h1, h2⟩ : ∃ qs, (if decide (a ∈ h.lk) = true then ∃ o, H (ρ a) = some (.frz o (.dK qs)) else H (ρ a) = some (.dK qs)) ∧ RKV G id ρ h.n H kvs qs := S.at_ ha c
          rw [if_pos (by simpa using hl)] at h1
          obtain ⟨o, h1⟩ := h1
          refine .inr (.inr (.inr (.inl ⟨_, o, qs, hv, h1, q _ ?_⟩)))
          intro ρ1 hh1 H1 i N S1 e1
          have hf : H1 (ρ a) = some (.frz o (.dK qs)) := by rw [N.fz a hl ha]; exact h1
          have hk := h2.keys
          have hln := h2.length
          refine ⟨fun z => ⟨hf, ?_⟩, fun w z => ?_⟩
          · have z' := List.getElem?_eq_none_iff.mp z
            rw [List.length_map] at z'
            omega
          · have z' : (kvs.map fun kv => wOf kv.1)[i]? = some w := z
            rw [List.getElem?_map] at z'
            obtain ⟨kv, z2, rfl⟩ := Option.map_eq_some_iff.mp z'
            have hi : i < kvs.length := (List.getElem?_eq_some_iff.mp z2).1
            refine ⟨⟨hf, by omega⟩, fun x H' hy => ?_⟩
            obtain ⟨rfl, k, v0, z3, rfl⟩ := hy
            have z4 : (qs.map (·.1))[i]? = some k := by rw [List.getElem?_map, z3]; rfl
            rw [hk, List.getElem?_map, z2] at z4
            cases z4
            refine ⟨Nx.refl, S1, ?_⟩
            obtain ⟨k, w0⟩ := kv
            cases k <;> exact rfl
        · cases e
      | dT kvs =>
        simp only [plan, c] at e
        split at e
        · rename_i hl
          cases e
          obtain ⟨qs, h1, h2⟩ : ∃ qs, (if decide (a ∈ h.lk) = true then ∃ o, H (ρ a) = some (.frz o (.dT qs)) else H (ρ a) = some (.dT qs)) ∧ RKV G id ρ h.n H kvs qs := S.at_ ha c
          rw [if_pos (by simpa using hl)] at h1
          obtain ⟨o, h1⟩ := h1
          refine .inr (.inr (.inr (.inr ⟨_, o, qs, hv, h1, q _ ?_⟩)))
          intro ρ1 hh1 H1 i N S1 e1
          have hf : H1 (ρ a) = some (.frz o (.dT qs)) := by rw [N.fz a hl ha]; exact h1
          have hk := h2.keys
          have hln := h2.length
          refine ⟨fun z => ⟨hf, ?_⟩, fun w z => ?_⟩
          · have z' := List.getElem?_eq_none_iff.mp z
            rw [List.length_map] at z'
            omega
          · have z' : (kvs.map fun kv => W.tup (kv.1.map wOf))[i]? = some w := z
            rw [List.getElem?_map] at z'
            obtain ⟨kv, z2, rfl⟩ := Option.map_eq_some_iff.mp z'
            have hi : i < kvs.length := (List.getElem?_eq_some_iff.mp z2).1
            refine ⟨⟨hf, by omega⟩, fun x H' hy => ?_⟩
            obtain ⟨rfl, k, v0, t, z3, rfl, z5⟩ := hy
            have z4 : (qs.map (·.1))[i]? = some k := by rw [List.getElem?_map, z3]; rfl
            rw [hk, List.getElem?_map, z2] at z4
            cases z4
            exact ⟨Nx.refl, S1, t, _, rfl, z5, keys_RVs _⟩
        · cases e
      | ins cc fs => simp [plan, planL, c] at e
  | _ => cases (show none = some p from e)
end Mn
end
section
set_option Elab.async false
set_option linter.all false
set_option maxRecDepth 100000
set_option maxHeartbeats 4000000
namespace Mn
open PySem PySem.Spec PyProof.Rows L2
section
variable {G : Env} {ρ ρ' ρ1 : Nat → Addr} {n n' : Nat} {H H' H1 : Hp} {h h' h1 : Hm} {E : XK}
theorem Ans.from {α : Type} {r : R α} {P : (Nat → Addr) → Hm → Hp → α → Prop} (A : Ans G ρ h H r P E) (N : Nx ρ h H ρ1 h1 H1) : Ans G ρ1 h1 H1 r P E := by
  cases r with
  | st => exact A
  | ok a h2 => exact fun ρ2 H2 N2 S2 => A ρ2 H2 (N.trans N2) S2
  | ex c fs h2 => exact fun ρ2 H2 d N2 S2 x2 => A ρ2 H2 d (N.trans N2) S2 x2
theorem Ans.noex {α : Type} {r : R α} {P : (Nat → Addr) → Hm → Hp → α → Prop} (A : Ans G ρ h H r.noex P E) : Ans G ρ h H r P (fun _ _ _ => False) := by
  cases r with
  | st => exact A
  | ok a h2 => exact A
  | ex c fs h2 => exact A.elim
theorem mut_of : ∀ {u : HO}, (∃ kvs, u = .dK kvs) ∨ (∃ kvs, u = .dT kvs) → Mut (some u) ∧ HO.mut u = true
  | _, .inl ⟨_, rfl⟩ => ⟨trivial, rfl⟩
  | _, .inr ⟨_, rfl⟩ => ⟨trivial, rfl⟩
theorem lock_ok (S : Sim G ρ h H) {a : Nat} (ha : a < h.n) (hl : a ∉ h.lk) (hd : isD (h.g a) = true) : ∃ u, H (ρ a) = some u ∧ Mut (some u) ∧ ∀ od,
    Ext ρ h.n H ρ h.n (upd H (ρ a) (.frz od u)) ∧ Sim G ρ (h.lock a) (upd H (ρ a) (.frz od u)) ∧
    ∀ ρ' h' H', Nx ρ (h.lock a) (upd H (ρ a) (.frz od u)) ρ' h' H' → Sim G ρ' h' H' → H' (ρ a) = some (.frz od u) ∧ Nx ρ h H ρ' (h'.relk h.lk) (upd H' (ρ a) u) ∧ Sim G ρ' (h'.relk h.lk) (upd H' (ρ a) u) ∧ Ext ρ' h'.n H' ρ' h'.n (upd H' (ρ a) u) := by
  have hu : ∃ u, H (ρ a) = some u ∧ ((∃ kvs, u = .dK kvs) ∨ ∃ kvs, u = .dT kvs) := by
    cases q : h.g a with
    | none => rw [q] at hd; cases hd
    | some o =>
      cases o with
      | dK kvs =>
        obtain ⟨ys, _, _, h3⟩ := S.dK ha q
        exact ⟨_, h3 hl, .inl ⟨_, rfl⟩⟩
      | dT kvs =>
        obtain ⟨ys, _, _, h3⟩ := S.dT ha q
        exact ⟨_, h3 hl, .inr ⟨_, rfl⟩⟩
      | _ => rw [q] at hd; cases hd
  obtain ⟨u, hu, hk⟩ := hu
  obtain ⟨mu, mu2⟩ := mut_of hk
  refine ⟨u, hu, mu, fun od => ?_⟩
  have muF : HO.mut (.frz od u) = true := by
    rcases hk with ⟨_, rfl⟩ | ⟨_, rfl⟩ <;> rfl
  have ex0 : Ext ρ h.n H ρ h.n (upd H (ρ a) (.frz od u)) := Ext.write S ha
  refine ⟨ex0, ⟨S.inj, fun i hi => ?_, fun b hb => ?_, fun b hb => ?_⟩, fun ρ' h' H' N S' => ?_⟩
  · obtain ⟨o, e, r⟩ := S.obj i hi
    by_cases q : i = a
    · subst q
      refine ⟨o, e, ?_⟩
      rw [show decide (i ∈ (h.lock i).lk) = true from decide_eq_true List.mem_cons_self]
      rw [show decide (i ∈ h.lk) = false from decide_eq_false hl] at r
      cases o with
      | dK kvs =>
        obtain ⟨ys, h1, h2⟩ := r
        rw [if_neg Bool.false_ne_true, hu] at h1
        cases h1
        exact ⟨ys, by rw [if_pos rfl]; exact ⟨od, upd_same⟩, RKV.ext ex0 _ _ h2⟩
      | dT kvs =>
        obtain ⟨ys, h1, h2⟩ := r
        rw [if_neg Bool.false_ne_true, hu] at h1
        cases h1
        exact ⟨ys, by rw [if_pos rfl]; exact ⟨od, upd_same⟩, RKV.ext ex0 _ _ h2⟩
      | lst xs => rw [e] at hd; cases hd
      | ins c fs => rw [e] at hd; cases hd
    · refine ⟨o, e, ?_⟩
      rw [show decide (i ∈ (h.lock a).lk) = decide (i ∈ h.lk) from decide_eq_decide.mpr ⟨fun z => (List.mem_cons.mp z).resolve_left q, fun z => List.mem_cons_of_mem _ z⟩]
      exact r.ext ex0 (upd_ne fun z => q (S.inj _ _ hi ha z))
  · rcases List.mem_cons.mp hb with e | e
    · rw [e]; exact ha
    · exact S.lkb b e
  · rcases List.mem_cons.mp hb with e | e
    · rw [e]; exact hd
    · exact S.lkd b e
  · have hf : H' (ρ a) = some (.frz od u) := by
      rw [N.fz a List.mem_cons_self ha]
      exact upd_same
    have hn : h.n ≤ h'.n := N.ext.le
    have ha' : a < h'.n := Nat.lt_of_lt_of_le ha hn
    have hag : ρ' a = ρ a := N.ext.ag a ha
    have ex1 : Ext ρ' h'.n H' ρ' h'.n (upd H' (ρ a) u) := by
      rw [← hag]
      exact Ext.write S' ha'
    have hlk : h'.lk = a :: h.lk := N.lk
    refine ⟨hf, ⟨⟨hn, N.ext.ag, fun b o e hb => ?_, fun i h1 h2 => ?_, fun b o e m => ?_, fun b o e => ?_⟩, rfl, N.lo, fun i hi hn' => ?_, fun i hi hn' => ?_⟩, ⟨S'.inj, fun i hi => ?_, fun b hb => ?_, fun b hb => ?_⟩, ex1⟩
    · have hne : b ≠ ρ a := fun z => hb a ha z.symm
      rw [upd_ne hne]
      exact N.ext.keep b o (by rw [upd_ne hne]; exact e) hb
    · have z := N.ext.fresh i h1 h2
      by_cases hne : ρ' i = ρ a
      · rw [hne, upd_same] at z; cases z
      · rw [upd_ne hne] at z; exact z
    · have hne : b ≠ ρ a := fun z => by rw [z, hu] at e; cases e; rw [m] at mu2; cases mu2
      rw [upd_ne hne]
      exact N.ext.tup b o (by rw [upd_ne hne]; exact e) m
    · by_cases hne : b = ρ a
      · exact ⟨u, by rw [hne, upd_same]⟩
      · rw [upd_ne hne]
        exact N.ext.there b o (by rw [upd_ne hne]; exact e)
    · by_cases q : i = a
      · subst q
        rw [upd_same, hu]
      · have hne : ρ i ≠ ρ a := fun z => q (S.inj _ _ hn' ha z)
        rw [upd_ne hne]
        have z := N.low i hi hn'
        rw [upd_ne hne] at z
        exact z
    · have q : i ≠ a := fun z => hl (by rw [← z]; exact hi)
      have hne : ρ i ≠ ρ a := fun z => q (S.inj _ _ hn' ha z)
      rw [upd_ne hne]
      have z := N.fz i (List.mem_cons_of_mem _ hi) hn'
      rw [upd_ne hne] at z
      exact z
    · obtain ⟨o, e, r⟩ := S'.obj i hi
      refine ⟨o, e, ?_⟩
      by_cases q : i = a
      · subst q
        rw [show decide (i ∈ (h'.relk h.lk).lk) = false from decide_eq_false hl]
        rw [show decide (i ∈ h'.lk) = true from decide_eq_true (by rw [hlk]; exact List.mem_cons_self)] at r
        cases o with
        | dK kvs =>
          obtain ⟨ys, h1, h2⟩ := r
          rw [if_pos rfl, hag] at h1
          obtain ⟨o', h1⟩ := h1
          rw [hf] at h1
          cases h1
          exact ⟨ys, by rw [if_neg Bool.false_ne_true, hag]; exact upd_same, RKV.ext ex1 _ _ h2⟩
        | dT kvs =>
          obtain ⟨ys, h1, h2⟩ := r
          rw [if_pos rfl, hag] at h1
          obtain ⟨o', h1⟩ := h1
          rw [hf] at h1
          cases h1
          exact ⟨ys, by rw [if_neg Bool.false_ne_true, hag]; exact upd_same, RKV.ext ex1 _ _ h2⟩
        | lst xs => have z := S'.lkd i (by rw [hlk]; exact List.mem_cons_self); rw [e] at z; cases z
        | ins c fs => have z := S'.lkd i (by rw [hlk]; exact List.mem_cons_self); rw [e] at z; cases z
      · rw [show decide (i ∈ (h'.relk h.lk).lk) = decide (i ∈ h'.lk) from decide_eq_decide.mpr ⟨fun z => by rw [hlk]; exact List.mem_cons_of_mem _ z, fun z => by rw [hlk] at z; exact (List.mem_cons.mp z).resolve_left q⟩]
        exact r.ext ex1 (upd_ne fun z => q (S'.inj _ _ hi ha' (by rw [hag]; exact z)))
    · exact Nat.lt_of_lt_of_le (S.lkb b hb) hn
    · exact S'.lkd b (by rw [hlk]; exact List.mem_cons_of_mem _ hb)
end
theorem wipe_get (τ : L2.St) : ∀ (vs : List Nat) (j : Nat), (wipe τ vs)[j]? = if j ∈ vs then (if j < τ.length then some none else none) else τ[j]?
  | [], j => by simp [wipe]
  | v :: vs, j => by
    unfold wipe
    have hl := wipe_length τ vs
    by_cases e : v = j
    · subst e
      rw [if_pos List.mem_cons_self]
      by_cases hv : v < τ.length
      · rw [if_pos hv, List.getElem?_set_self (by rw [hl]; exact hv)]
      · rw [if_neg hv, List.getElem?_eq_none (by rw [List.length_set, hl]; omega)]
    · rw [List.getElem?_set_ne e, wipe_get τ vs j]
      by_cases m : j ∈ vs
      · rw [if_pos m, if_pos (List.mem_cons_of_mem _ m)]
      · rw [if_neg m, if_neg fun z => (List.mem_cons.mp z).elim (fun y => e y.symm) m]
theorem setV_length : ∀ {is : List Nat} {vs : List V} {τ : L2.St}, (setV is vs τ).length = τ.length
  | [], _, _ => rfl
  | _ :: _, [], _ => rfl
  | i :: is, v :: vs, τ => by
    show (setV is vs (τ.set i (some v))).length = _
    rw [setV_length, List.length_set]
theorem setV_off : ∀ {is : List Nat} {vs : List V} {τ : L2.St} {j : Nat}, j ∉ is → (setV is vs τ)[j]? = τ[j]?
  | [], _, _, _, _ => rfl
  | _ :: _, [], _, _, _ => rfl
  | i :: is, v :: vs, τ, j, hj => by
    show (setV is vs (τ.set i (some v)))[j]? = _
    rw [setV_off fun z => hj (List.mem_cons_of_mem _ z), List.getElem?_set_ne fun z => hj (by rw [z]; exact List.mem_cons_self)]
theorem wipe_setV {is : List Nat} {vs : List V} {τ : L2.St} : wipe (setV is vs (wipe τ is)) is = wipe τ is := by
  apply List.ext_getElem?
  intro j
  rw [wipe_get, setV_length, wipe_length]
  by_cases m : j ∈ is
  · rw [if_pos m, wipe_get, if_pos m]
  · rw [if_neg m, setV_off m]
theorem wipe_set1 {i : Nat} {v : V} {τ : L2.St} : wipe ((wipe τ [i]).set i (some v)) [i] = wipe τ [i] := by
  have := wipe_setV (is := [i]) (vs := [v]) (τ := τ)
  exact this
def RSx (G : Env) (ρ : Nat → Addr) (n : Nat) (H : Hp) (bad : List Nat) (σ : List (Option W)) (τ : L2.St) : Prop := σ.length = τ.length ∧ ∀ (i : Nat) (w : W), i ∉ bad → σ[i]? = some (some w) → ∃ v : V, τ[i]? = some (some v) ∧ RV G ρ n H w v
section
variable {G : Env} {ρ : Nat → Addr} {n : Nat} {H : Hp} {σ : List (Option W)} {τ : L2.St}
theorem RS.wiped (r : RS G ρ n H σ τ) (vs : List Nat) : RSx G ρ n H vs σ (wipe τ vs) := ⟨by rw [wipe_length]; exact r.1, fun i w hi h => by
  obtain ⟨v, h1, h2⟩ := r.2 i w h
  exact ⟨v, by rw [wipe_get, if_neg hi]; exact h1, h2⟩⟩
theorem RSx.all : ∀ {is : List Nat} {ws : List W} {vs : List V} {σ : List (Option W)} {τ : L2.St}, RSx G ρ n H is σ τ → RVs G ρ n H ws vs → vs.length = is.length → RS G ρ n H (setSlots is ws σ) (setV is vs τ)
  | [], ws, vs, σ, τ, r, _, _ => ⟨r.1, fun i w h => r.2 i w (by simp) h⟩
  | i :: is, [], vs, σ, τ, r, rv, hl => by
    cases (show vs = [] from rv)
    cases hl
  | i :: is, w :: ws, vs, σ, τ, r, rv, hl => by
    obtain ⟨y, q, rfl, h2, h3⟩ : ∃ y r, vs = y :: r ∧ RV G ρ n H w y ∧ RVs G ρ n H ws r := rv
    refine RSx.all (is := is) (ws := ws) (vs := q) ⟨by rw [List.length_set, List.length_set]; exact r.1, fun j x hj hx => ?_⟩ h3 (Nat.succ.inj hl)
    by_cases e : i = j
    · subst e
      by_cases hi : i < σ.length
      · rw [List.getElem?_set_self hi] at hx
        cases hx
        exact ⟨y, List.getElem?_set_self (by rw [← r.1]; exact hi), h2⟩
      · rw [List.getElem?_eq_none (by rw [List.length_set]; omega)] at hx
        cases hx
    · rw [List.getElem?_set_ne e] at hx
      obtain ⟨z, h4, h5⟩ := r.2 j x (fun m => (List.mem_cons.mp m).elim (fun y => e y.symm) hj) hx
      exact ⟨z, by rw [List.getElem?_set_ne e]; exact h4, h5⟩
theorem store_comp {K : PySem.W.Frag} (hK : K = G.K) {t : Tg} {w : W} {v : V} {h : Hm} {σ' : List (Option W)} (S : Sim G ρ h H) (r : RS G ρ h.n H σ τ) (rv : RV G ρ h.n H w v) (e : store t w σ h = some σ') :
    ∃ τ', RS G ρ h.n H σ' τ' ∧ wipe τ' (slotsT t) = wipe τ (slotsT t) ∧ ∀ Q, Q τ' H → gT K t v (wipe τ (slotsT t)) H Q := by
  cases t with
  | one i =>
    cases (show some (σ.set i (some w)) = some σ' from e)
    refine ⟨(wipe τ [i]).set i (some v), ?_, wipe_set1, fun Q q => q⟩
    exact RSx.all (is := [i]) (ws := [w]) (vs := [v]) (r.wiped [i]) ⟨v, [], rfl, rv, rfl⟩ rfl
  | row is =>
    obtain ⟨ws, ys, rfl, h1, h2, h3⟩ := row_vals hK S rv e
    exact ⟨setV is ys (wipe τ is), RSx.all (r.wiped is) h1 h2, wipe_setV, fun Q q => h3 _ Q q⟩
end
end Mn
end
section
set_option Elab.async false
set_option linter.all false
set_option maxRecDepth 100000
set_option maxHeartbeats 4000000
namespace Mn
open PySem PySem.Spec PyProof.Rows L2
theorem lookup_val {κ : Type} [DecidableEq κ] [BEq κ] [LawfulBEq κ] (k : κ) : ∀ ys : List (κ × V), ys.lookup k = valV ys k
  | [] => rfl
  | (j, v) :: ys => by
    by_cases e : j = k
    · subst e
      rw [List.lookup_cons, beq_self_eq_true]
      simp [valV]
    · rw [List.lookup_cons, show (k == j) = false from beq_eq_false_iff_ne.mpr fun z => e z.symm]
      show ys.lookup k = _
      rw [lookup_val k ys]
      simp [valV, e]
section
variable {X : Cx} {E : XK} {o : Expr} {m : Str} {p q : Pos} {τ : L2.St} {H : Hp} {Q : VK}
theorem ht_of {env : PySem.Env} {es : List Expr} (hb : attributeBase o m env (eval o env) = eval o env) (hf : methodCallForm es.length (backTo q (starEach es env)) [] = true) (hl : (p.endLine == q.line) = true) :
    eval (.Call (.Attribute o m p) es [] q) env = (do
      let ov ← eval o env
      standAt p.atName
      let (f, first) ← holding [ov] (getMethod ov m (do return (← importBound o env).getD true))
      callWith q f first (backTo q (starEach es env)) (backToKw q (keywordEach [] env))) := by
  show (do
    let ov ← attributeBase o m env (eval o env)
    standAt p.atName
    methodCall o m p q env ov (es.length + 0) (backTo q (starEach es env)) (backToKw q (keywordEach [] env))) = _
  rw [hb]
  unfold methodCall
  have hk : backToKw q (keywordEach [] env) = [] := rfl
  rw [hk, Nat.add_zero, hf]
  unfold calleeOf methodCallPos
  rw [hl]
  simp
theorem wE_ometh {es : List Expr} (hs : es.all notStar = true) (hn : es.length < 30) (hb : attributeBase o m X.env (eval o X.env) = eval o X.env) (hl : (p.endLine == q.line) = true) (hx : Passes (L2.CX X.prog X.w) X E)
    (ho : wE X o τ H fun x H1 => ∃ (a C dx f : Addr) (fs : List (Str × V)) (fd : FuncData) (k : Nat) (sp : Sp) (ps : List Str), x = .ref a ∧ H1 a = some (.ins C dx fs) ∧ fs.lookup m = none ∧ Cls X.K C ∧ Meth X.K C m f ∧
      FnOk X.prog X.w X.K X.mg X.base (L2.CX X.prog X.w) k f fd ps sp ∧ Room k X.A ∧ Binds X.K fd ps [] ∧ (es = [] → sp [x] H1 Q E) ∧ (es ≠ [] → wA X es τ H1 fun vs H2 => sp (x :: vs) H2 Q E)) :
    wE X (.Call (.Attribute o m p) es [] q) τ H Q := fun pins s I => by
  have hf : methodCallForm es.length (backTo q (starEach es X.env)) [] = true := by
    unfold methodCallForm
    rw [star_all q X.env hs]
    simp
    omega
  refine PySem.W.methodCall_KW (pl := (do return (← importBound o X.env).getD true)) (thn (ho pins s I) fun u s1 ⟨x, H1, I1, rx, a, C, dx, f, fs, fd, k, sp, ps, ex, ea, l, c, hm, F, hr, hB, q0, q1⟩ => ?_) (ht_of hb hf hl)
  subst ex
  obtain rfl : u = Value.ref a := rx
  refine getmeth_ok I1 ea c hm l ?_
  cases es with
  | nil =>
    refine PySem.W.callWith_K0 (first := [.ref a]) I1.kIn hm.kp ?_
    exact run_fn (us := [.ref a]) (vs := [.ref a]) (dvs := []) (ds := []) F hr hB .nil hx I1 (.cons rfl .nil) (by simpa using q0 rfl)
  | cons e es =>
    rw [List.all_cons, Bool.and_eq_true] at hs
    refine PySem.W.callWith_K (first := [.ref a]) (h₀ := X.base) I1.ok.mod.kin hm.kp (thn (q1 (List.cons_ne_nil _ _) q pins s1 I1) fun us s2 ⟨vs, H2, I2, r, q2⟩ => ⟨I2.kIn, ?_⟩) (star_cons hs.1 es X.env) (star_any q X.env hs.2)
    exact run_fn (us := .ref a :: us) (vs := .ref a :: vs) (dvs := []) (ds := []) F hr hB .nil hx I2 (.cons rfl r) (by simpa using q2)
theorem wT_val {e : Expr} {R : Bool → Hp → Prop} (he : ∀ whole, isTrue e X.env whole = (do let v ← whole; standAt e.pos; holding [v] (truthy v))) (h : wE X e τ H fun x H1 => wTru X x H1 R) : wT X e τ H R := fun pins s I =>
  isTrue_plain (thn (h pins s I) fun v s1 ⟨x, H1, I1, r1, q1⟩ => q1 pins s1 τ v I1 r1) (he _)
end
section
variable {M : Md} {d : Nat} {D : Dt} {E : XK} {X : Cx}
theorem Ctx.fnOk (C : Ctx M d D E X) {f : Nat} {F : Fn} (hF : M.T.fn f = some F) : FnOk X.prog X.w X.K X.mg X.base (L2.CX X.prog X.w) (lv d) (M.fa f) (M.fd f) (M.fp f) (spM M d f) := by
  rw [C.prog, C.w, C.K, C.mg, C.base]
  exact C.fns f F hF
theorem Ctx.pas' (C : Ctx M d D E X) : Passes (L2.CX X.prog X.w) X E := by
  exact passes_call C.tk fun _ _ _ _ h => h
theorem Ctx.binds (C : Ctx M d D E X) {f : Nat} {F : Fn} (hF : M.T.fn f = some F) : Binds X.K (M.fd f) (M.fp f) [] := by
  rw [C.K]
  exact C.ok.binds f F hF
theorem run_len (ok : M.Ok) {f : Nat} {ws : List W} {h : Hm} (hr : run M.T d f ws h ≠ .st) : ws.length = (M.fp f).length := by
  cases d with
  | zero => exact absurd rfl hr
  | succ d =>
    unfold run at hr
    cases q : M.T.fn f with
    | none => rw [q] at hr; exact absurd rfl hr
    | some F =>
      rw [q] at hr
      dsimp only at hr
      split at hr
      · rename_i hl
        rw [hl, ok.ps f F q]
      · exact absurd rfl hr
theorem spM_of (ok : M.Ok) {f : Nat} {ρ : Nat → Addr} {h : Hm} {H : Hp} {ws : List W} {vs : List V} {Q : VK} (S : Sim M.G ρ h H) (r : RVs M.G ρ h.n H ws vs) (A : Ans M.G ρ h H (run M.T d f ws h) (PQ M.G Q) E) : spM M d f vs H Q E :=
  ⟨by rw [← r.length]; exact run_len ok A.ne, ρ, h, ws, S, r, A⟩
theorem bad_no {c f : Nat} (hb : (M.T.cf (run M.T d)).bad c f = false) : c ∈ M.T.cl ∧ f < M.T.nf ∧ (c, f) ∈ M.T.goods := by
  have hb' : (!(decide (c ∈ M.T.cl) && decide (f < M.T.nf) && M.T.goods.any fun p => decide (p.1 = c) && decide (p.2 = f))) = false := hb
  have h1 : (decide (c ∈ M.T.cl) && decide (f < M.T.nf) && M.T.goods.any fun p => decide (p.1 = c) && decide (p.2 = f)) = true := by simpa using hb'
  rw [Bool.and_eq_true, Bool.and_eq_true] at h1
  obtain ⟨p, hp, h2⟩ := List.any_eq_true.mp h1.2
  rw [Bool.and_eq_true] at h2
  obtain ⟨a, b⟩ := p
  have e1 : a = c := of_decide_eq_true h2.1
  have e2 : b = f := of_decide_eq_true h2.2
  subst e1 e2
  exact ⟨of_decide_eq_true h1.1.1, of_decide_eq_true h1.1.2, hp⟩
theorem fld_ok (ok : M.Ok) {ρ : Nat → Addr} {h : Hm} {H : Hp} (S : Sim M.G ρ h H) {w w' : W} {v : V} {f : Nat} (r : RV M.G ρ h.n H w v) (e : fldW (M.T.cf (run M.T d)).bad w f h = some w') :
    ∃ a c dx ys z, v = .ref a ∧ H a = some (.ins (M.G.ca c) dx ys) ∧ Cls M.G.K (M.G.ca c) ∧ NoAttr M.G.K (M.G.ca c) (M.G.fn f) ∧ ys.lookup (M.G.fn f) = some z ∧ RV M.G ρ h.n H w' z := by
  cases w with
  | ref a =>
    obtain ⟨ha, rfl⟩ := r.ref
    cases q : h.g a with
    | none => simp [fldW, q] at e
    | some o =>
      cases o with
      | ins c fs =>
        simp only [fldW, q] at e
        split at e
        · cases e
        · rename_i hb
          obtain ⟨b1, b2, b3⟩ := bad_no (d := d) (by simpa using hb)
          obtain ⟨dx, ys, h1, h2, _, h4⟩ := S.ins ha q
          have z := h2.look f (fun j hj e => ok.inj j f (by have := h4 j hj; rw [ok.nf] at this; exact this) b2 e)
          rw [e] at z
          obtain ⟨y, z1, z2⟩ := z
          exact ⟨_, c, dx, ys, y, rfl, h1, ok.cls c b1, ok.attr c f b3, by rw [lookup_val]; exact z1, z2⟩
      | _ => simp [fldW, q] at e
  | _ => cases (show none = some w' from e)
theorem lookup_map {x : Str} {k : NameKind} (g : Str × NameKind → Str × NameKind) (hg : ∀ p, (g p).1 = p.1 ∧ ((g p).2 = p.2 ∨ (p.2 = .free ∧ (g p).2 = .cell))) : ∀ l : List (Str × NameKind), l.lookup x = some k → (l.map g).lookup x = some k ∨ (k = .free ∧ (l.map g).lookup x = some .cell)
  | [], h => by cases h
  | (z, j) :: l, h => by
    rw [List.lookup_cons] at h
    rw [List.map_cons]
    obtain ⟨g1, g2⟩ := hg (z, j)
    rw [show g (z, j) = (z, (g (z, j)).2) from Prod.ext g1 rfl, List.lookup_cons]
    cases q : x == z with
    | true =>
      rw [q] at h
      cases h
      rcases g2 with e | ⟨e, e2⟩
      · exact .inl (congrArg some e)
      · exact .inr ⟨e, congrArg some e2⟩
    | false =>
      rw [q] at h
      exact lookup_map g hg l h
theorem relab {scope : Scope} {env : PySem.Env} {x : Str} {k : NameKind} (h : scope.names.lookup x = some k) : (relabel scope env).names.lookup x = some k ∨ (k = .free ∧ (relabel scope env).names.lookup x = some .cell) := by
  refine lookup_map _ (fun p => ?_) _ h
  obtain ⟨n, j⟩ := p
  dsimp only
  split
  · rename_i c
    simp only [Bool.and_eq_true] at c
    exact ⟨rfl, .inr ⟨eq_of_beq c.1.1, rfl⟩⟩
  · exact ⟨rfl, .inl rfl⟩
theorem Ctx.block (C : Ctx M d D E X) {own : List (Str × Nat)} {scope : Scope} (hb : blkC D.N D.sc scope own = true) (s : Shared) (H : Hp) (A : Addr) (cl : List (Str × Addr)) (fp : List Addr) : Ctx M d ⟨D.N, scope⟩ (fun _ _ _ => False) (X.blk s H scope (compEnvC scope cl A X.env) fp) where
  prog := C.prog
  w := C.w
  K := C.K
  mg := C.mg
  base := C.base
  N := C.N
  nd := C.nd
  sc := fun x k h => relab h
  kind := (blkOk_by hb).kind
  calm := C.calm
  hu := C.hu
  room := C.room
  tk := takes0
  fnc := fun x h => by
    have h' : scope.names.lookup x = some .cell := h
    show (scope.names.lookup x == some .cell) = true
    rw [h']
    rfl
  fns := C.fns
  ok := C.ok
theorem Ctx.blkOk (C : Ctx M d D E X) {own : List (Str × Nat)} {scope : Scope} (hb : blkC D.N D.sc scope own = true) : BlkOk X.N X.env.scope scope own := by
  have b := blkOk_by hb
  rw [C.N]
  refine ⟨b.kind, b.uniq, b.ix, fun y hy e => ?_, b.own⟩
  rcases b.free y hy e with z | z
  · rcases C.sc _ _ z with k | ⟨k, _⟩
    · exact .inl k
    · cases k
  · rcases C.sc _ _ z with k | ⟨_, k⟩
    · exact .inr k
    · exact .inl k
end
end Mn
end
section
set_option Elab.async false
set_option linter.all false
set_option maxRecDepth 100000
set_option maxHeartbeats 8000000
namespace Mn
open PySem PySem.Spec PyProof.Rows L2
section
variable {G : Env} {ρ ρ1 : Nat → Addr} {h h1 : Hm} {H H1 : Hp} {Dn : Addr} {u : HO}
theorem poke_kp {xs : List V} (hd : H Dn = some (.lst xs)) : Kp ρ h.n H ρ h.n (upd H Dn u) := ⟨Nat.le_refl _, fun _ _ => rfl, fun b o e m => by
  rw [upd_ne (fun z => by rw [z, hd] at e; cases e; cases m)]
  exact e⟩
theorem Sim.poke {xs : List V} (S : Sim G ρ h H) (hd : H Dn = some (.lst xs)) (hn : ∀ i, i < h.n → ρ i ≠ Dn) : Sim G ρ h (upd H Dn u) where
  inj := S.inj
  obj := fun i hi => by
    obtain ⟨o, e, r⟩ := S.obj i hi
    exact ⟨o, e, r.kp (poke_kp hd) (upd_ne (hn i hi))⟩
  lkb := S.lkb
  lkd := S.lkd
theorem Nx.poke (N : Nx ρ h H ρ1 h1 H1) (S : Sim G ρ h H) (hd : H Dn = none) (hn : ∀ i, i < h1.n → ρ1 i ≠ Dn) {xs : List V} (hd1 : H1 Dn = some (.lst xs)) : Nx ρ h H ρ1 h1 (upd H1 Dn u) where
  ext := {
    le := N.ext.le
    ag := N.ext.ag
    keep := fun b o e hb => by
      rw [upd_ne (ne_of_none e hd)]
      exact N.ext.keep b o e hb
    fresh := N.ext.fresh
    tup := fun b o e m => by
      rw [upd_ne (ne_of_none e hd)]
      exact N.ext.tup b o e m
    there := fun b o e => by
      rw [upd_ne (ne_of_none e hd)]
      exact N.ext.there b o e }
  lk := N.lk
  lo := N.lo
  low := fun i hi hn' => by
    obtain ⟨x, hx, _⟩ := S.has hn'
    rw [upd_ne (ne_of_none hx hd)]
    exact N.low i hi hn'
  fz := fun i hi hn' => by
    obtain ⟨x, hx, _⟩ := S.has hn'
    rw [upd_ne (ne_of_none hx hd)]
    exact N.fz i hi hn'
theorem Sim.adopt {o : O} (S : Sim G ρ h H) (hn : ∀ i, i < h.n → ρ i ≠ Dn) (r : RO G (ext1 ρ h.n Dn) (h.n + 1) H false Dn o) : Sim G (ext1 ρ h.n Dn) (h.push o) H where
  inj := fun i j hi hj e => by
    have hi' : i < h.n + 1 := hi
    have hj' : j < h.n + 1 := hj
    by_cases qi : i = h.n <;> by_cases qj : j = h.n
    · rw [qi, qj]
    · have l : j < h.n := by omega
      rw [qi, ext1_same, ext1_lt l] at e
      exact absurd e.symm (hn j l)
    · have l : i < h.n := by omega
      rw [qj, ext1_same, ext1_lt l] at e
      exact absurd e (hn i l)
    · have li : i < h.n := by omega
      have lj : j < h.n := by omega
      rw [ext1_lt li, ext1_lt lj] at e
      exact S.inj i j li lj e
  obj := fun i hi => by
    have hi' : i < h.n + 1 := hi
    have kp : Kp ρ h.n H (ext1 ρ h.n Dn) (h.n + 1) H := ⟨Nat.le_succ _, fun i hi => ext1_lt hi, fun b o e _ => e⟩
    by_cases q : i = h.n
    · subst q
      refine ⟨o, if_pos rfl, ?_⟩
      rw [ext1_same, show decide (h.n ∈ (h.push o).lk) = false from decide_eq_false fun z => absurd (S.lkb _ z) (Nat.lt_irrefl _)]
      exact r
    · have l : i < h.n := by omega
      obtain ⟨o', e, r'⟩ := S.obj i l
      refine ⟨o', (if_neg q).trans e, ?_⟩
      rw [ext1_lt l]
      exact r'.kp kp rfl
  lkb := fun a ha => Nat.lt_succ_of_lt (S.lkb a ha)
  lkd := fun a ha => by
    show isD (if a = h.n then some o else h.g a) = true
    rw [if_neg (Nat.ne_of_lt (S.lkb a ha))]
    exact S.lkd a ha
theorem Nx.adopt {o : O} (N : Nx ρ h H ρ1 h1 H1) (hd : H Dn = none) : Nx ρ h H (ext1 ρ1 h1.n Dn) (h1.push o) H1 where
  ext := {
    le := Nat.le_trans N.ext.le (Nat.le_succ _)
    ag := fun i hi => by rw [ext1_lt (Nat.lt_of_lt_of_le hi N.ext.le)]; exact N.ext.ag i hi
    keep := N.ext.keep
    fresh := fun i h2 h3 => by
      have h3' : i < h1.n + 1 := h3
      by_cases q : i = h1.n
      · subst q
        rw [ext1_same]
        exact hd
      · rw [ext1_lt (show i < h1.n by omega)]
        exact N.ext.fresh i h2 (by omega)
    tup := N.ext.tup
    there := N.ext.there }
  lk := N.lk
  lo := N.lo
  low := N.low
  fz := N.fz
end
theorem bindA {α β γ : Type} (r : R α) (f : α → Hm → R β) (g : β → Hm → R γ) : (r.bind f).bind g = r.bind fun x h => (f x h).bind g := by
  cases r <;> rfl
def compR (gd : List (Nat × List W)) (f : W → Hm → R (Option W)) (ws : List W) (xs : List W) (h : Hm) : R W := (compL gd f xs h).bind fun ys h => newL (ws ++ ys) h
theorem compR_cons {gd : List (Nat × List W)} {f : W → Hm → R (Option W)} {ws : List W} {x : W} {xs : List W} {h : Hm} : compR gd f ws (x :: xs) h = if stays h gd = true then (f x h).noex.bind fun y h => compR gd f (ws ++ y.toList) xs h else .st := by
  unfold compR
  rw [compL]
  split
  · rw [bindA]
    congr 1
    funext y h1
    rw [bindA]
    congr 1
    funext ys h2
    cases y with
    | none => simp [R.bind]
    | some y => simp [R.bind]
  · rfl
theorem compR_nil {gd : List (Nat × List W)} {f : W → Hm → R (Option W)} {ws : List W} {h : Hm} : compR gd f ws [] h = if stays h gd = true then newL ws h else .st := by
  unfold compR
  rw [compL]
  split
  · simp [R.bind]
  · rfl
theorem compR_len {gd : List (Nat × List W)} {f : W → Hm → R (Option W)} : ∀ (xs ws : List W) (h : Hm), compR gd f ws xs h ≠ .st → ws.length ≤ line
  | [], ws, h, hr => by
    rw [compR_nil] at hr
    split at hr
    · unfold newL at hr
      split at hr
      · assumption
      · exact absurd rfl hr
    · exact absurd rfl hr
  | x :: xs, ws, h, hr => by
    rw [compR_cons] at hr
    split at hr
    · cases q : (f x h).noex with
      | st => rw [q] at hr; exact absurd rfl hr
      | ok y h1 =>
        rw [q] at hr
        have z := compR_len xs (ws ++ y.toList) h1 hr
        rw [List.length_append] at z
        omega
      | ex c fs h1 =>
        cases q2 : f x h with
        | st => rw [q2] at q; cases q
        | ok y h1 => rw [q2] at q; cases q
        | ex c fs h1 => rw [q2] at q; cases q
    · exact absurd rfl hr
section
variable {G : Env} {E : XK} {Q : VK}
theorem comp_loop {J : L2.It} {p : Plan} {f : W → Hm → R (Option W)} {ρ1 : Nat → Addr} {h1 : Hm} {H1 : Hp} {vs : List Nat} {σ : List (Option W)} {τ : L2.St} {g : TG} {tt : TT} {te : TE}
    (S1 : Sim G ρ1 h1 H1) (r1 : RS G ρ1 h1.n H1 σ τ) (wk : Wk G J p ρ1 h1 H1)
    (body : ∀ ρ2 h2 H2 w x (P : (Nat → Addr) → Hm → Hp → Option W → Prop) (Qn : Hp → Prop) (Qy : V → Hp → Prop), Sim G ρ2 h2 H2 → RS G ρ2 h2.n H2 σ τ → RV G ρ2 h2.n H2 w x → Ans G ρ2 h2 H2 (f w h2) P (fun _ _ _ => False) →
      (∀ ρ3 h3 H3, Nx ρ2 h2 H2 ρ3 h3 H3 → Sim G ρ3 h3 H3 → P ρ3 h3 H3 none → Qn H3) → (∀ ρ3 h3 H3 w3 y, Nx ρ2 h2 H2 ρ3 h3 H3 → Sim G ρ3 h3 H3 → RV G ρ3 h3.n H3 w3 y → P ρ3 h3 H3 (some w3) → Qy y H3) →
      g x (wipe τ vs) H2 fun τ2 H3 => wipe τ2 vs = wipe τ vs ∧ tt τ2 H3 fun b H4 => if b = true then te τ2 H4 Qy else Qn H4)
    (A : Ans G ρ1 h1 H1 ((compL p.gd f p.xs h1).bind fun ys h => newL ys h) (PQ G Q) E) (Dn : Addr) (hD : H1 Dn = none) :
    ∃ W : Nat → Nat → Hp → Prop, (∃ m, W 0 m (upd H1 Dn (.lst []))) ∧ ∀ i m H, W i m H →
      (J.stop i H ∧ Q (.ref Dn) H) ∨ (J.go i H ∧ ∃ Nx : Hp → Prop, (∀ H', Nx H' → ∃ m', m' < m ∧ W (i + 1) m' H') ∧ ∀ x H', J.yld i H x H' → g x (wipe τ vs) H' fun σ2 H2 => wipe σ2 vs = wipe τ vs ∧ tt σ2 H2 fun b H3 =>
        if b = true then te σ2 H3 fun y H4 => ∃ acc, H4 Dn = some (.lst acc) ∧ acc.length < sizeLine ∧ Nx (upd H4 Dn (.lst (acc ++ [y]))) else Nx H3) := by
  have base : ∀ {ρ2 : Nat → Addr} {h2 : Hm} {H2 : Hp}, Nx ρ1 h1 H1 ρ2 h2 H2 → ∀ i, i < h1.n → ρ2 i ≠ Dn := fun {ρ2 h2 H2} N i hi z => by
    rw [N.ext.ag i hi] at z
    obtain ⟨x, hx, _⟩ := S1.has hi
    rw [z, hD] at hx
    cases hx
  refine ⟨fun i m H => ∃ ρ2 h2 acc ws, Nx ρ1 h1 H1 ρ2 h2 H ∧ Sim G ρ2 h2 H ∧ (∀ j, j < h2.n → ρ2 j ≠ Dn) ∧ H Dn = some (.lst acc) ∧ RVs G ρ2 h2.n H ws acc ∧ i ≤ p.xs.length ∧ m = p.xs.length - i ∧ Ans G ρ1 h1 H1 (compR p.gd f ws (p.xs.drop i) h2) (PQ G Q) E, ?_, ?_⟩
  · refine ⟨p.xs.length, ρ1, h1, [], [], Nx.temp S1 hD, S1.temp hD, base Nx.refl, upd_same, rfl, Nat.zero_le _, rfl, ?_⟩
    have e : compR p.gd f [] (p.xs.drop 0) h1 = (compL p.gd f p.xs h1).bind fun ys h => newL ys h := by
      unfold compR
      simp
    rw [e]
    exact A
  · rintro i m H ⟨ρ2, h2, acc, ws, N, S, hn, hacc, rv, hi, rfl, A2⟩
    by_cases hlt : i < p.xs.length
    · -- a turn
      have ed : p.xs.drop i = p.xs[i] :: p.xs.drop (i + 1) := (List.drop_eq_getElem_cons hlt)
      rw [ed, compR_cons] at A2
      split at A2
      · rename_i hst
        obtain ⟨_, wk2⟩ := wk ρ2 h2 H i N S hst
        obtain ⟨go, wk3⟩ := wk2 p.xs[i] (List.getElem?_eq_getElem hlt)
        refine .inr ⟨go, fun H' => ∃ ρ3 h3 acc' ws', Nx ρ1 h1 H1 ρ3 h3 H' ∧ Sim G ρ3 h3 H' ∧ (∀ j, j < h3.n → ρ3 j ≠ Dn) ∧ H' Dn = some (.lst acc') ∧ RVs G ρ3 h3.n H' ws' acc' ∧ Ans G ρ1 h1 H1 (compR p.gd f ws' (p.xs.drop (i + 1)) h3) (PQ G Q) E, ?_, ?_⟩
        · rintro H' ⟨ρ3, h3, acc', ws', a1, a2, a3, a4, a5, a6⟩
          exact ⟨p.xs.length - (i + 1), by omega, ρ3, h3, acc', ws', a1, a2, a3, a4, a5, hlt, rfl, a6⟩
        · intro x H' hy
          obtain ⟨N3, S3, rx⟩ := wk3 x H' hy
          have A3 : Ans G ρ2 h2 H' (f p.xs[i] h2) (fun ρ3 h3 H3 y => Ans G ρ1 h1 H1 (compR p.gd f (ws ++ y.toList) (p.xs.drop (i + 1)) h3) (PQ G Q) E) (fun _ _ _ => False) := by
            cases q : f p.xs[i] h2 with
            | st => rw [q] at A2; exact A2
            | ok y h3 =>
              rw [q] at A2
              exact fun ρ' H'' _ _ => A2
            | ex c fs h3 => rw [q] at A2; exact A2.elim
          -- what is kept of Dn
          have keep : ∀ {ρ3 : Nat → Addr} {h3 : Hm} {H3 : Hp}, Nx ρ2 h2 H' ρ3 h3 H3 → H3 Dn = some (.lst acc) ∧ (∀ j, j < h3.n → ρ3 j ≠ Dn) ∧ Nx ρ1 h1 H1 ρ3 h3 H3 ∧ RVs G ρ3 h3.n H3 ws acc := fun {ρ3 h3 H3} N4 => by
            have hD' : H' Dn = some (.lst acc) := N3.ext.keep Dn _ hacc hn
            refine ⟨N4.ext.keep Dn _ hD' hn, fun j hj z => ?_, (N.trans N3).trans N4, RVs.ext N4.ext _ _ (RVs.ext N3.ext _ _ rv)⟩
            by_cases q : j < h2.n
            · rw [N4.ext.ag j q] at z
              exact hn j q z
            · have y := N4.ext.fresh j (by omega) hj
              rw [z, hD'] at y
              cases y
          refine body ρ2 h2 H' p.xs[i] x _ _ _ S3 ((r1.ext N.ext).ext N3.ext) rx A3 (fun ρ3 h3 H3 N4 S4 P4 => ?_) (fun ρ3 h3 H3 w3 y N4 S4 ry P4 => ?_)
          · obtain ⟨k1, k2, k3, k4⟩ := keep N4
            rw [Option.toList_none, List.append_nil] at P4
            exact ⟨ρ3, h3, acc, ws, k3, S4, k2, k1, k4, P4⟩
          · obtain ⟨k1, k2, k3, k4⟩ := keep N4
            rw [Option.toList_some] at P4
            have hlen := compR_len _ _ _ P4.ne
            rw [List.length_append, List.length_singleton, k4.length, line_eq] at hlen
            have kp : Kp ρ3 h3.n H3 ρ3 h3.n (upd H3 Dn (.lst (acc ++ [y]))) := poke_kp k1
            exact ⟨acc, k1, hlen, ρ3, h3, acc ++ [y], ws ++ [w3], k3.poke S1 hD k2 k1, S4.poke k1 k2, k2, upd_same, RVs.append (RVs.kp kp _ _ k4) ⟨y, [], rfl, RV.kp kp _ _ ry, rfl⟩, P4⟩
      · exact A2.elim
    · have ed : p.xs.drop i = [] := List.drop_eq_nil_of_le (by omega)
      rw [ed, compR_nil] at A2
      split at A2
      · rename_i hst
        obtain ⟨wk2, _⟩ := wk ρ2 h2 H i N S hst
        refine .inl ⟨wk2 (List.getElem?_eq_none_iff.mpr (by omega)), ?_⟩
        have kp : Kp ρ2 h2.n H (ext1 ρ2 h2.n Dn) (h2.n + 1) H := ⟨Nat.le_succ _, fun i hi => ext1_lt hi, fun b o e _ => e⟩
        unfold newL at A2
        split at A2
        rotate_left
        · exact A2.elim
        exact A2 (ext1 ρ2 h2.n Dn) H (N.adopt hD) (S.adopt hn ⟨acc, hacc, RVs.kp kp _ _ rv⟩) (.ref Dn) ⟨Nat.lt_succ_self _, by rw [ext1_same]⟩
      · exact A2.elim
end
end Mn
end
section
set_option Elab.async false
set_option linter.all false
set_option maxRecDepth 100000
set_option maxHeartbeats 8000000
namespace Mn
open PySem PySem.Spec PyProof.Rows L2
theorem bmId_some {T : KT} {m : BM} (h : okM T m = true) : ∃ id, bmId T m = some id := by
  cases T <;> cases m <;> first
    | (cases (show false = true from h))
    | exact ⟨_, rfl⟩
theorem boot_bi {f : BI} {x : Str} {v : Value} (h : biN f = some x) (hv : biV f = some v) : bootBuiltins x = some v := by
  cases f <;> first
    | (cases (show none = some x from h))
    | (cases h; cases hv; decide +kernel)
section
variable {X : Cx} {τ : L2.St} {H : Hp} {Q : VK}
theorem wE_bi {es : List Expr} {x : Str} {v : Value} {p q : Pos} (hT : (∃ id, v = .builtin id) ∨ ∃ T, v = .type T) (hs : es.all notStar = true) (hne : es.isEmpty = false) (hg : Gl X x) (hm : X.mg x = none) (hv : bootBuiltins x = some v) (hd : (x == ("__debug__" : Str)) = false) (hn : x ≠ "__name__")
    (h : wA X es τ H fun vs H1 => wC X v vs H1 Q) : wE X (.Call (.Name x p) es [] q) τ H Q := by
  cases es with
  | nil => cases hne
  | cons e es =>
    rw [List.all_cons, Bool.and_eq_true] at hs
    rcases hT with ⟨id, rfl⟩ | ⟨T, rfl⟩
    · exact PE.to (pe_callB crW hg hm hv paW hn hd (star_cons hs.1 es X.env) (star_any q X.env hs.2)) h
    · exact PE.to (pe_callTy crW hg hm hv paW hn hd (star_cons hs.1 es X.env) (star_any q X.env hs.2)) h
end
abbrev Md.cf (M : Md) (d : Nat) : Cf := M.T.cf (run M.T d)
def SE (M : Md) (d : Nat) (m : Ex) (D : Dt) (e : Expr) : Prop := ∀ ⦃E : XK⦄ ⦃X : Cx⦄ ⦃ρ : Nat → Addr⦄ ⦃h : Hm⦄ ⦃H : Hp⦄ ⦃σ : List (Option W)⦄ ⦃τ : L2.St⦄ ⦃Q : VK⦄, Ctx M d D E X → Sim M.G ρ h H → RS M.G ρ h.n H σ τ →
    Ans M.G ρ h H (evE (M.cf d) m σ h) (PQ M.G Q) E → wE X e τ H Q
def SEs (M : Md) (d : Nat) (ms : Exs) (D : Dt) (es : List Expr) : Prop := ∀ ⦃E : XK⦄ ⦃X : Cx⦄ ⦃ρ : Nat → Addr⦄ ⦃h : Hm⦄ ⦃H : Hp⦄ ⦃σ : List (Option W)⦄ ⦃τ : L2.St⦄ ⦃Q : List V → Hp → Prop⦄, Ctx M d D E X → Sim M.G ρ h H → RS M.G ρ h.n H σ τ →
    Ans M.G ρ h H (evEs (M.cf d) ms σ h) (fun ρ' h' H' ws => ∀ vs, RVs M.G ρ' h'.n H' ws vs → Q vs H') E → wA X es τ H Q
def ST (M : Md) (d : Nat) (m : Ex) (D : Dt) (e : Expr) : Prop := ∀ ⦃E : XK⦄ ⦃X : Cx⦄ ⦃ρ : Nat → Addr⦄ ⦃h : Hm⦄ ⦃H : Hp⦄ ⦃σ : List (Option W)⦄ ⦃τ : L2.St⦄ ⦃R : Bool → Hp → Prop⦄, Ctx M d D E X → Sim M.G ρ h H → RS M.G ρ h.n H σ τ →
    Ans M.G ρ h H (evT (M.cf d) m σ h) (fun _ _ H' b => R b H') E → wT X e τ H R
def SI (M : Md) (d : Nat) (it : It) (D : Dt) (tg iter : Expr) : Prop := ∀ ⦃E : XK⦄ ⦃X : Cx⦄ ⦃ρ : Nat → Addr⦄ ⦃h : Hm⦄ ⦃H : Hp⦄ ⦃σ : List (Option W)⦄ ⦃τ : L2.St⦄ ⦃R : L2.It → Hp → Prop⦄, Ctx M d D E X → Sim M.G ρ h H → RS M.G ρ h.n H σ τ →
    Ans M.G ρ h H (evI (M.cf d) it σ h) (fun ρ1 h1 H1 p => ∀ J, Wk M.G J p ρ1 h1 H1 → R J H1) E → wPI X tg iter τ H R
theorem bind_one {C : Cf} {a : Ex} {σ : List (Option W)} {h : Hm} {α : Type} {k : List W → Hm → R α} : (evEs C (.cons a .nil) σ h).bind k = (evE C a σ h).bind fun x h => k [x] h := by
  rw [evEs_cons]
  cases evE C a σ h <;> rfl
theorem bi_ty {f : BI} {T : TyT} (h : isTy f = some T) (x : W) (hh : Hm) : Mn.bi f [x] hh = isW T x hh ∧ (T = .lst ∨ T = .bl ∨ T = .int ∨ T = .str) := by
  cases f <;> first
    | (cases (show none = some T from h))
    | (cases h; exact ⟨rfl, by simp⟩)
theorem boot_ty {T : TyT} (h : T = .lst ∨ T = .bl ∨ T = .int ∨ T = .str) : bootBuiltins (tyN T : Str) = some (.type (tyN T)) := by
  rcases h with rfl | rfl | rfl | rfl <;> decide +kernel
theorem biV_some {f : BI} {x : Str} (h : biN f = some x) : ∃ v, biV f = some v ∧ ((∃ id, v = .builtin id) ∨ ∃ T, v = .type T) := by
  cases f <;> first
    | (cases (show none = some x from h))
    | exact ⟨_, rfl, .inl ⟨_, rfl⟩⟩
    | exact ⟨_, rfl, .inr ⟨_, rfl⟩⟩
theorem lock_wE {G : Env} {ρ : Nat → Addr} {h : Hm} {H : Hp} {σ : List (Option W)} {τ : L2.St} {E : XK} {Q : VK} {X : Cx} {e : Expr} {l : Option Nat} {f : Hm → R W} (S : Sim G ρ h H) (r : RS G ρ h.n H σ τ)
    (core : ∀ (h : Hm) (H : Hp) (Q : VK), Sim G ρ h H → RS G ρ h.n H σ τ → Ans G ρ h H (f h) (PQ G Q) E → wE X e τ H Q) (A : Ans G ρ h H (withLock .st R.relk l h f) (PQ G Q) E) : wE X e τ H Q := by
  unfold withLock at A
  split at A
  · exact core h H Q S r A
  · rename_i a
    split at A
    · exact core h H Q S r A
    · rename_i hl
      split at A
      · rename_i hc
        obtain ⟨u, hu, mu, k⟩ := lock_ok S hc.1 hl hc.2
        refine PE.to (pe_lock peW) ⟨ρ a, u, hu, mu, fun od => ?_⟩
        obtain ⟨ex0, S0, k2⟩ := k od
        refine core (h.lock a) _ _ S0 (r.ext ex0) ?_
        revert A
        cases f (h.lock a) with
        | st => exact id
        | ex c fs h' => exact fun z => z.elim
        | ok w h' =>
          intro A ρ' H' N S' v rv
          obtain ⟨hf, N2, S2, ex⟩ := k2 ρ' h' H' N S'
          exact ⟨hf, A ρ' _ N2 S2 v (RV.ext ex _ _ rv)⟩
      · exact A.elim
section
variable {M : Md} {d : Nat} {D : Dt} {e0 c : Ex} {t : Tg} {it : It} {elt tg iter : Expr} {cond : Option Expr} {sc : Scope} {pos : Pos}
theorem isYes_eq {c : Ex} (h : isYes c = true) : c = .con (.bl true) := by
  unfold isYes at h
  split at h
  · rfl
  · cases h
theorem comp_tLc (hb : blkC D.N D.sc sc ((slotsT t).map fun i => (D.N.getD i "", i)) = true) (htg : ckT ⟨D.N, sc⟩ t tg = true) (hns : noSet iter = true) (iE : SE M d e0 ⟨D.N, sc⟩ elt)
    (iC : match cond with
      | none => isYes c = true
      | some y => ST M d c ⟨D.N, sc⟩ y) (iI : SI M d it D tg iter) {E : XK} {X : Cx} {ρ : Nat → Addr} {h : Hm} {H : Hp} {σ : List (Option W)} {τ : L2.St} {Q : VK} (C : Ctx M d D E X) (S : Sim M.G ρ h H) (r : RS M.G ρ h.n H σ τ)
    (A : Ans M.G ρ h H ((evI (M.cf d) it σ h).bind fun p h => (compL p.gd (fun x h => match store t x σ h with
      | some σ => (evT (M.cf d) c σ h).bind fun b h => match b with
        | true => (evE (M.cf d) e0 σ h).bind fun y h => .ok (some y) h
        | false => .ok none h
      | none => .st) p.xs h).bind fun ys h => newL ys h) (PQ M.G Q) E) : ∃ (tt : TT) (te : TE), (∀ (s : Shared) (H : Hp) (A : Addr) (cl : List (Str × Addr)) (fp : List Addr), PTs (X.blk s H sc (compEnvC sc cl A X.env) fp) cond.toList tt) ∧
      (∀ (s : Shared) (H : Hp) (A : Addr) (cl : List (Str × Addr)) (fp : List Addr), PE (X.blk s H sc (compEnvC sc cl A X.env) fp) elt te) ∧ tLc (wPI X tg iter) (gT X.K t) tt te (slotsT t) τ H Q := by
  have eo : ((slotsT t).map fun i => (D.N.getD i "", i)).map (·.2) = slotsT t := by
    rw [List.map_map]
    exact List.map_id _
  have hN : X.N.Nodup := by rw [C.N]; exact C.nd
  have main : ∀ (tt : TT), (∀ (s : Shared) (H : Hp) (A : Addr) (cl : List (Str × Addr)) (fp : List Addr), PTs (X.blk s H sc (compEnvC sc cl A X.env) fp) cond.toList tt) →
      (∀ ρ2 h2 H2 σ2 τ2 (Qb : Bool → Hp → Prop), Sim M.G ρ2 h2 H2 → RS M.G ρ2 h2.n H2 σ2 τ2 → Ans M.G ρ2 h2 H2 (evT (M.cf d) c σ2 h2) (fun _ _ H' b => Qb b H') (fun _ _ _ => False) → tt τ2 H2 Qb) →
      ∃ (tt : TT) (te : TE), (∀ (s : Shared) (H : Hp) (A : Addr) (cl : List (Str × Addr)) (fp : List Addr), PTs (X.blk s H sc (compEnvC sc cl A X.env) fp) cond.toList tt) ∧
      (∀ (s : Shared) (H : Hp) (A : Addr) (cl : List (Str × Addr)) (fp : List Addr), PE (X.blk s H sc (compEnvC sc cl A X.env) fp) elt te) ∧ tLc (wPI X tg iter) (gT X.K t) tt te (slotsT t) τ H Q := fun tt htt kt => by
    refine ⟨tt, fun σ H Q => ∀ (s : Shared) (H0 : Hp) (A : Addr) (cl : List (Str × Addr)) (fp : List Addr), wE (X.blk s H0 sc (compEnvC sc cl A X.env) fp) elt σ H Q, htt, (fun s H A cl fp => ⟨fun pins s' σ H' Q I hw => hw s H A cl fp pins s' I⟩), ?_⟩
    refine iI C S r (Ans.imp (Ans.bind A) fun ρ1 h1 H1 p ⟨N1, S1, A1⟩ J wk => ?_)
    intro Dn hD
    refine comp_loop (vs := slotsT t) (g := gT X.K t) (tt := tt) (te := fun σ H Q => ∀ (s : Shared) (H0 : Hp) (A : Addr) (cl : List (Str × Addr)) (fp : List Addr), wE (X.blk s H0 sc (compEnvC sc cl A X.env) fp) elt σ H Q) S1 (r.ext N1.ext) wk (fun ρ2 h2 H2 w x P Qn Qy S2 r2 rx A2 kn ky => ?_) A1 Dn hD
    split at A2
    · rename_i σ2 hs
      obtain ⟨τ2, r3, hw, hg⟩ := store_comp (K := X.K) C.K S2 r2 rx hs
      refine hg _ ⟨hw, kt ρ2 h2 H2 σ2 τ2 _ S2 r3 (Ans.imp (Ans.bind A2) fun ρ3 h3 H3 b ⟨N3, S3, A3⟩ => ?_)⟩
      cases b with
      | true =>
        rw [if_pos rfl]
        intro s H0 Aa cl fp
        refine iE (C.block hb s H0 Aa cl fp) S3 (r3.ext N3.ext) (Ans.imp (Ans.bind A3) fun ρ4 h4 H4 w4 ⟨N4, S4, A4⟩ v rv => ?_)
        exact ky ρ4 h4 H4 w4 v (N3.trans N4) S4 rv (A4.now S4)
      | false =>
        rw [if_neg Bool.false_ne_true]
        exact kn ρ3 h3 H3 N3 S3 (A3.now S3)
    · exact A2.elim
  cases cond with
  | none =>
    refine main tYes (fun _ _ _ _ _ => pts_nil) fun ρ2 h2 H2 σ2 τ2 Qb S2 r2 A2 => ?_
    have e1 := isYes_eq iC
    subst e1
    have e2 : evT (M.cf d) (.con (.bl true)) σ2 h2 = .ok true h2 := by
      rfl
    rw [e2] at A2
    exact A2.now S2
  | some y =>
    refine main (fun σ H R => ∀ (s : Shared) (H0 : Hp) (A : Addr) (cl : List (Str × Addr)) (fp : List Addr), wT (X.blk s H0 sc (compEnvC sc cl A X.env) fp) y σ H R) (fun s H A cl fp => pts_one ⟨fun pins s' σ H' Q I hw => hw s H A cl fp pins s' I⟩) fun ρ2 h2 H2 σ2 τ2 Qb S2 r2 A2 => ?_
    intro s H0 Aa cl fp
    exact iC (C.block hb s H0 Aa cl fp) S2 r2 A2
theorem comp_core (hb : blkC D.N D.sc sc ((slotsT t).map fun i => (D.N.getD i "", i)) = true) (htg : ckT ⟨D.N, sc⟩ t tg = true) (hns : noSet iter = true) (iE : SE M d e0 ⟨D.N, sc⟩ elt)
    (iC : match cond with
      | none => isYes c = true
      | some y => ST M d c ⟨D.N, sc⟩ y) (iI : SI M d it D tg iter) {E : XK} {X : Cx} {ρ : Nat → Addr} {h : Hm} {H : Hp} {σ : List (Option W)} {τ : L2.St} {Q : VK} (C : Ctx M d D E X) (S : Sim M.G ρ h H) (r : RS M.G ρ h.n H σ τ)
    (A : Ans M.G ρ h H ((evI (M.cf d) it σ h).bind fun p h => (compL p.gd (fun x h => match store t x σ h with
      | some σ => (evT (M.cf d) c σ h).bind fun b h => match b with
        | true => (evE (M.cf d) e0 σ h).bind fun y h => .ok (some y) h
        | false => .ok none h
      | none => .st) p.xs h).bind fun ys h => newL ys h) (PQ M.G Q) E) : wE X (.ListComp elt [⟨tg, iter, cond.toList, 0⟩] sc pos) τ H Q := by
  obtain ⟨tt, te, h1, h2, h3⟩ := comp_tLc hb htg hns iE iC iI C S r A
  have eo : ((slotsT t).map fun i => (D.N.getD i "", i)).map (·.2) = slotsT t := by
    rw [List.map_map]
    exact List.map_id _
  refine PE.to (pe_lc (g := gT X.K t) C.calm (by rw [C.N]; exact C.nd) piW (C.blkOk hb) (fun s H A cl fp => pgT (C.block hb s H A cl fp) htg) h1 h2 (noSet_fold hns X.env)) ?_
  rw [eo]
  exact h3
end
theorem isTupE_eq {e : Expr} (h : isTupE e = true) : ∃ es k p, e = .Tuple es k p := by
  unfold isTupE at h
  obtain ⟨es, q⟩ := Option.isSome_iff_exists.mp h
  obtain ⟨k, p, rfl⟩ := asTup_eq q
  exact ⟨es, k, p, rfl⟩
def isVal : Ex → Bool
  | .no => false
  | .and _ _ => false | .or _ _ => false | .not _ => false | .cmp _ _ _ => false | .cmp2 _ _ _ _ _ => false
  | _ => true
theorem val_form {B : Tb} {m : Ex} {D : Dt} {e : Expr} (ck : ckE B m D e = true) (hv : isVal m = true) : ∀ (env : PySem.Env) (whole : Sem Value), isTrue e env whole = (do let v ← whole; standAt e.pos; holding [v] (truthy v)) := by
  intro env whole
  cases m with
  | loc i =>
    rw [ckE] at ck
    split at ck
    · rename_i q
      obtain ⟨p, rfl⟩ := asName_eq q
      rfl
    · cases ck
  | bin o a b =>
    rw [ckE] at ck
    split at ck
    · rename_i q
      obtain ⟨p, rfl⟩ := asBin_eq q
      rfl
    · cases ck
  | neg a =>
    rw [ckE] at ck
    split at ck
    · rename_i q
      obtain ⟨p, rfl⟩ := asNeg_eq q
      rfl
    · cases ck
  | tup es =>
    rw [ckE] at ck
    split at ck
    · rename_i q
      obtain ⟨k, p, rfl⟩ := asTup_eq q
      rfl
    · cases ck
  | lst es =>
    rw [ckE] at ck
    split at ck
    · rename_i q
      obtain ⟨p, rfl⟩ := asLst_eq q
      rfl
    · cases ck
  | attr a f =>
    rw [ckE] at ck
    split at ck
    · rename_i q
      obtain ⟨p, rfl⟩ := asAttr_eq q
      rfl
    · cases ck
  | sub a b =>
    rw [ckE] at ck
    split at ck
    · rename_i q
      obtain ⟨_, p, rfl⟩ := asSub_eq q
      rfl
    · cases ck
  | cut a l u =>
    rw [ckE] at ck
    split at ck
    · rename_i q
      obtain ⟨p2, p, rfl⟩ := asCut_eq q
      rfl
    · cases ck
  | call f es =>
    rw [ckE] at ck
    split at ck
    · rename_i q
      obtain ⟨p2, p, rfl⟩ := asCallN_eq q
      rfl
    · cases ck
  | meth o m es =>
    rw [ckE] at ck
    split at ck
    · rename_i q
      obtain ⟨p2, p, _, rfl⟩ := asCallA_eq q
      rfl
    · cases ck
  | make c es =>
    rw [ckE] at ck
    split at ck
    · rename_i q
      obtain ⟨p2, p, rfl⟩ := asCallN_eq q
      rfl
    · cases ck
  | bi f es =>
    rw [ckE] at ck
    split at ck
    · rename_i q
      obtain ⟨p2, p, rfl⟩ := asCallN_eq q
      rfl
    · cases ck
  | bm m o es =>
    rw [ckE] at ck
    split at ck
    · rename_i q
      obtain ⟨p2, p, _, rfl⟩ := asCallA_eq q
      rfl
    · cases ck
  | comp e0 t it c =>
    rw [ckE] at ck
    split at ck
    · rename_i q
      obtain ⟨p, rfl⟩ := asLC_eq q
      rfl
    · cases ck
  | con w =>
    rw [ckE] at ck
    split at ck
    · rename_i q
      obtain ⟨k, p, rfl⟩ := asConst_eq q
      rfl
    · split at ck
      · rename_i q
        obtain ⟨p, rfl⟩ := asName_eq q
        rfl
      · cases ck
  | dict t =>
    rw [ckE] at ck
    obtain ⟨p, rfl⟩ := asDict0_eq ck
    rfl
  | disp es =>
    rw [ckE] at ck
    split at ck
    · rename_i q
      obtain ⟨p, rfl, _⟩ := asDisp_eq q
      rfl
    · cases ck
  | no => cases hv
  | and a b => cases hv
  | or a b => cases hv
  | not a => cases hv
  | cmp o a b => cases hv
  | cmp2 o p a b c => cases hv
theorem tst_val {M : Md} {d : Nat} {m : Ex} {D : Dt} {e : Expr} (hT : ∀ σ h, evT (M.cf d) m σ h = (evE (M.cf d) m σ h).bind fun x h => match truW x h with
    | some t => .ok t h
    | none => .st) (he : ∀ (env : PySem.Env) (whole : Sem Value), isTrue e env whole = (do let v ← whole; standAt e.pos; holding [v] (truthy v))) (s : SE M d m D e) : ST M d m D e := by
  intro E X ρ h H σ τ R C S r A
  rw [hT] at A
  refine wT_val (he X.env) (s C S r (Ans.imp (Ans.bind A) fun ρ1 h1 H1 w ⟨N1, S1, A1⟩ v rv => ?_))
  split at A1
  · rename_i t ht
    exact tru_okW C.K S1 rv ht (Ans.now (a := t) A1 S1)
  · exact A1.elim
theorem pw_of {X : Cx} {op : PySem.BoolOp} {vs : List Expr} {p : Pos} : PW X (.BoolOp op vs p) (wT X (.BoolOp op vs p)) := ⟨fun wh pins s σ H Q I hw => hw pins s I⟩
def partT (X : Cx) : Option Expr → TO
  | some y => tPart (wE X y)
  | none => tNoPart
theorem poT (X : Cx) : ∀ y : Option Expr, PO X y (partT X y)
  | some y => po_some peW
  | none => po_none
theorem cut_part {M : Md} {d : Nat} {m : Ex} {D : Dt} {y : Option Expr} (ck : (match y with
    | some y => !isNon m && ckE M.tb m D y
    | none => isNon m) = true) (ih : ∀ y0, ckE M.tb m D y0 = true → SE M d m D y0) {E : XK} {X : Cx} {ρ : Nat → Addr} {h : Hm} {H : Hp} {σ : List (Option W)} {τ : L2.St} {Q : VK} {Rr : Option Int → Hp → Prop} {k : W → Hm → R W}
    (C : Ctx M d D E X) (S : Sim M.G ρ h H) (r : RS M.G ρ h.n H σ τ) (A : Ans M.G ρ h H ((evE (M.cf d) m σ h).bind k) (PQ M.G Q) E)
    (hk : ∀ ρ2 h2 H2 w o, Nx ρ h H ρ2 h2 H2 → Sim M.G ρ2 h2 H2 → Ans M.G ρ2 h2 H2 (k w h2) (PQ M.G Q) E → cutB m w = some o → Rr o H2) (hs : ∀ w h2, cutB m w = none → k w h2 = .st) : partT X y τ H Rr := by
  cases y with
  | none =>
    have hm : m = .con .non := by
      have ck0 : isNon m = true := ck
      unfold isNon at ck0
      split at ck0
      · rfl
      · cases ck0
    subst hm
    exact hk ρ h H .non none Nx.refl S A rfl
  | some y =>
    rw [Bool.and_eq_true] at ck
    have hn : ∀ w o, cutB m w = some o → ∃ i, w = .int i ∧ o = some i := fun w o e => by
      unfold cutB at e
      split at e
      · have := ck.1
        simp [isNon] at this
      · split at e
        · cases e
          exact ⟨_, rfl, rfl⟩
        · cases e
    refine ih y ck.2 C S r (Ans.imp (Ans.bind A) fun ρ1 h1 H1 w ⟨N1, S1, A1⟩ v rv => ?_)
    cases q : cutB m w with
    | none =>
      rw [hs w h1 q] at A1
      exact A1.elim
    | some o =>
      obtain ⟨i, rfl, rfl⟩ := hn w o q
      exact ⟨i, rv.int, hk ρ1 h1 H1 _ _ N1 S1 A1 q⟩
abbrev trsOf (X : Cx) (ks vs : List Expr) : List (TE × TE) := (ks.zip vs).map fun p => (wE X p.1, wE X p.2)
theorem pps_all {X : Cx} {pos : Pos} : ∀ {ks vs : List Expr}, ks.length = vs.length → PPs X pos (ks.map some) vs (trsOf X ks vs)
  | [], [], _ => pps_nil
  | [], _ :: _, h => by cases h
  | _ :: _, [], h => by cases h
  | k :: ks, v :: vs, h => pps_cons peW peW (pps_all (Nat.succ.inj h))
def SDs (M : Md) (d : Nat) (ms : Exs) (D : Dt) (ks vs : List Expr) : Prop := ∀ ⦃E : XK⦄ ⦃X : Cx⦄ ⦃ρ : Nat → Addr⦄ ⦃h : Hm⦄ ⦃H : Hp⦄ ⦃σ : List (Option W)⦄ ⦃τ : L2.St⦄ ⦃Q : List (V × V) → Hp → Prop⦄, Ctx M d D E X → Sim M.G ρ h H → RS M.G ρ h.n H σ τ →
    Ans M.G ρ h H (evEs (M.cf d) ms σ h) (fun ρ' h' H' ws => ∀ ps : List (V × V), RVs M.G ρ' h'.n H' ws (ps.flatMap fun p => [p.1, p.2]) → Q ps H') E → tPairs (trsOf X ks vs) τ H Q
section
variable {G : Env} {ρ ρ1 : Nat → Addr} {n : Nat} {h h1 : Hm} {H H1 : Hp} {Dn : Addr} {u u0 : HO}
theorem pokeM_kp (hd : H Dn = some u0) (hm : HO.mut u0 = true) : Kp ρ n H ρ n (upd H Dn u) := ⟨Nat.le_refl _, fun _ _ => rfl, fun b o e m => by
  rw [upd_ne (fun z => by rw [z, hd] at e; cases e; rw [hm] at m; cases m)]
  exact e⟩
theorem Sim.pokeM (S : Sim G ρ h H) (hd : H Dn = some u0) (hm : HO.mut u0 = true) (hn : ∀ i, i < h.n → ρ i ≠ Dn) : Sim G ρ h (upd H Dn u) where
  inj := S.inj
  obj := fun i hi => by
    obtain ⟨o, e, r⟩ := S.obj i hi
    exact ⟨o, e, r.kp (pokeM_kp hd hm) (upd_ne (hn i hi))⟩
  lkb := S.lkb
  lkd := S.lkd
theorem Nx.pokeM (N : Nx ρ h H ρ1 h1 H1) (S : Sim G ρ h H) (hd : H Dn = none) : Nx ρ h H ρ1 h1 (upd H1 Dn u) where
  ext := {
    le := N.ext.le
    ag := N.ext.ag
    keep := fun b o e hb => by
      rw [upd_ne (ne_of_none e hd)]
      exact N.ext.keep b o e hb
    fresh := N.ext.fresh
    tup := fun b o e m => by
      rw [upd_ne (ne_of_none e hd)]
      exact N.ext.tup b o e m
    there := fun b o e => by
      rw [upd_ne (ne_of_none e hd)]
      exact N.ext.there b o e }
  lk := N.lk
  lo := N.lo
  low := fun i hi hn' => by
    obtain ⟨x, hx, _⟩ := S.has hn'
    rw [upd_ne (ne_of_none hx hd)]
    exact N.low i hi hn'
  fz := fun i hi hn' => by
    obtain ⟨x, hx, _⟩ := S.has hn'
    rw [upd_ne (ne_of_none hx hd)]
    exact N.fz i hi hn'
theorem Ans.under {α β : Type} {E : XK} {P : (Nat → Addr) → Hm → Hp → β → Prop} {r : R α} {f : α → Hm → R β} {H0 : Hp} (A : Ans G ρ h H (r.bind f) P E) (N0 : Nx ρ h H ρ h H0) :
    Ans G ρ h H0 r (fun ρ1 h1 H1 x => Nx ρ h H0 ρ1 h1 H1 ∧ Sim G ρ1 h1 H1 ∧ Ans G ρ h H (f x h1) P E) E := by
  cases r with
  | st => exact A
  | ok x h1 => exact fun ρ1 H1 N1 S1 => ⟨N1, S1, A⟩
  | ex c fs h1 => exact fun ρ1 H1 d N1 S1 x1 => A ρ1 H1 d (N0.trans N1) S1 x1
theorem dpairs_ok : ∀ {ws : List W} {ps : List (V × V)} {d0 d : List (Key × W)} {acc : List (Key × V)}, dpairs ws d0 = some d → RVs G ρ n H ws (ps.flatMap fun p => [p.1, p.2]) → RKV G id ρ n H d0 acc →
    ∃ kvs : List (Key × V), ps = kvs.map (fun kv => (kV kv.1, kv.2)) ∧ RKV G id ρ n H d (mergeK acc kvs)
  | [], [], d0, d, acc, e, _, r => by
    cases (show some d0 = some d from e)
    exact ⟨[], rfl, r⟩
  | [], p :: ps, _, _, _, _, r, _ => by cases (show p.1 :: p.2 :: _ = [] from r)
  | [w], _, _, _, _, e, _, _ => by cases (show none = some _ from e)
  | k :: w :: ws, [], _, _, _, _, r, _ => by
    obtain ⟨y, q, h1, _⟩ : ∃ y r, ([] : List V) = y :: r ∧ RV G ρ n H k y ∧ RVs G ρ n H (w :: ws) r := r
    cases h1
  | k :: w :: ws, p :: ps, d0, d, acc, e, r, r0 => by
    obtain ⟨y, q, h1, h2, y2, q2, h3, h4, h5⟩ : ∃ y r, p.1 :: p.2 :: (ps.flatMap fun p => [p.1, p.2]) = y :: r ∧ RV G ρ n H k y ∧ ∃ y2 q2, r = y2 :: q2 ∧ RV G ρ n H w y2 ∧ RVs G ρ n H ws q2 := r
    cases h1
    cases h3
    have e' : ((keyOf k).bind fun k => dpairs ws (putD k w d0)) = some d := e
    cases q : keyOf k with
    | none => rw [q] at e'; cases e'
    | some kk =>
      rw [q] at e'
      obtain ⟨kvs, k1, k2⟩ := dpairs_ok (ws := ws) (ps := ps) (acc := putK acc kk p.2) e' h5 (r0.put kk h4)
      refine ⟨(kk, p.2) :: kvs, ?_, k2⟩
      rw [List.map_cons, ← k1, ← keyOf_ok q h2]
end
end Mn
end
section
set_option Elab.async false
set_option linter.all false
set_option maxRecDepth 100000
set_option maxHeartbeats 8000000
namespace Mn
open PySem PySem.Spec PyProof.Rows L2
section
variable {M : Md} {d : Nat}
mutual
theorem sE : ∀ (m : Ex) (D : Dt) (e : Expr), ckE M.tb m D e = true → SE M d m D e
  | .loc i, D, e, ck => by
    intro E X ρ h H σ τ Q C S r A
    rw [ckE] at ck
    rw [evE_loc] at A
    split at ck
    · rename_i x q
      rw [Bool.and_eq_true, Bool.and_eq_true] at ck
      obtain ⟨p, rfl⟩ := asName_eq q
      obtain ⟨n1, n2, _⟩ := nameOk_ok ck.2
      split at A
      · rename_i w hw
        obtain ⟨v, h1, h2⟩ := r.2 i w hw
        exact PE.to (pe_var (by rw [C.N]; exact of_decide_eq_true ck.1.1) (C.vis ck.1.2) n1 n2) ⟨v, h1, A.val S h2⟩
      · exact A.elim
    · cases ck
  | .con w, D, e, ck => by
    intro E X ρ h H σ τ Q C S r A
    rw [ckE] at ck
    rw [evE_con] at A
    split at ck
    · rename_i c q
      obtain ⟨k, p, rfl⟩ := asConst_eq q
      unfold conC at ck
      split at ck
      · exact PE.to pe_non (A.val S rfl)
      · have := eq_of_beq ck
        subst this
        exact PE.to pe_bl (A.val S rfl)
      · have := of_decide_eq_true ck
        subst this
        exact PE.to pe_int (A.val S rfl)
      · have := of_decide_eq_true ck
        subst this
        exact PE.to pe_str (A.val S rfl)
      · cases ck
    · split at ck
      · rename_i x q
        obtain ⟨p, rfl⟩ := asName_eq q
        rw [Bool.and_eq_true, Bool.and_eq_true] at ck
        split at ck
        · rename_i w' hl
          have := same_eq _ _ ck.2
          subst this
          obtain ⟨u, v, h1, h2, h3⟩ := C.ok.cons x w hl
          exact PE.to (pe_glob (C.gl ck.1.1) (by rw [C.mg]; exact h1) h2 (nameOk_ok ck.1.2).1) (A.val S (h3 ρ h.n H))
        · cases ck.2
      · cases ck
  | .bin o a b, D, e, ck => by
    intro E X ρ h H σ τ Q C S r A
    rw [ckE] at ck
    rw [evE_bin] at A
    split at ck
    · rename_i p x y q
      rw [Bool.and_eq_true, Bool.and_eq_true] at ck
      obtain ⟨ps, rfl⟩ := asBin_eq q
      have := of_decide_eq_true ck.1.1
      subst this
      refine PE.to (pe_op orW peW peW) (sE a D x ck.1.2 C S r (Ans.imp (Ans.bind A) fun ρ1 h1 H1 w ⟨N1, S1, A1⟩ v rv => ?_))
      refine sE b D y ck.2 C S1 (r.ext N1.ext) (Ans.imp (Ans.bind A1) fun ρ2 h2 H2 w2 ⟨N2, S2, A2⟩ u ru => ?_)
      exact bin_ok C.K S2 (RV.ext N2.ext _ _ rv) ru A2
    · cases ck
  | .neg a, D, e, ck => by
    intro E X ρ h H σ τ Q C S r A
    rw [ckE] at ck
    rw [evE_neg] at A
    split at ck
    · rename_i x q
      obtain ⟨ps, rfl⟩ := asNeg_eq q
      refine PE.to (pe_un un_neg peW) (sE a D x ck C S r (Ans.imp (Ans.bind A) fun ρ1 h1 H1 w ⟨N1, S1, A1⟩ v rv => ?_))
      split at A1
      · exact ⟨_, rv.int, A1.val S1 rfl⟩
      · exact A1.elim
    · cases ck
  | .cmp o a b, D, e, ck => by
    intro E X ρ h H σ τ Q C S r A
    rw [ckE] at ck
    rw [evE_cmp] at A
    split at ck
    · rename_i p x y q
      rw [Bool.and_eq_true, Bool.and_eq_true, Bool.and_eq_true] at ck
      obtain ⟨ps, rfl⟩ := asCmp_eq q
      have := of_decide_eq_true ck.1.1.1
      subst this
      refine PE.to (pe_cmpR orW peW peW (noSet_mark ck.1.1.2 _)) (sE a D x ck.1.2 C S r (Ans.imp (Ans.bind A) fun ρ1 h1 H1 w ⟨N1, S1, A1⟩ v rv => ?_))
      refine sE b D y ck.2 C S1 (r.ext N1.ext) (Ans.imp (Ans.bind A1) fun ρ2 h2 H2 w2 ⟨N2, S2, A2⟩ u ru => ?_)
      unfold lift at A2
      split at A2
      · rename_i b0 hb
        exact cmp_ok C.K (by have := C.hu; omega) S2 (RV.ext N2.ext _ _ rv) ru hb (A2.val S2 rfl)
      · exact A2.elim
    · cases ck
  | .cmp2 o p a b c, D, e, ck => by
    intro E X ρ h H σ τ Q C S r A
    rw [ckE] at ck
    rw [evE_cmp2] at A
    split at ck
    · rename_i o' p' x y z q
      simp only [Bool.and_eq_true] at ck
      obtain ⟨⟨⟨⟨⟨c1, c2⟩, c3⟩, c4⟩, c5⟩, c6⟩ := ck
      obtain ⟨ps, rfl⟩ := asCmp2_eq q
      have := of_decide_eq_true c1
      subst this
      have := of_decide_eq_true c2
      subst this
      refine PE.to (pe_chain orW orW peW peW peW (by show behindInMarks (cop p) z = false; exact noSet_mark c3 _)) (sE a D x c4 C S r (Ans.imp (Ans.bind A) fun ρ1 h1 H1 w ⟨N1, S1, A1⟩ v rv => ?_))
      refine sE b D y c5 C S1 (r.ext N1.ext) (Ans.imp (Ans.bind A1) fun ρ2 h2 H2 w2 ⟨N2, S2, A2⟩ u ru => ?_)
      have hu : X.A.units + 65 < cLine := by have := C.hu; omega
      split at A2
      · rename_i hb
        refine cmp_ok C.K hu S2 (RV.ext N2.ext _ _ rv) ru hb ⟨true, rfl, ?_⟩
        rw [if_pos rfl]
        refine sE c D z c6 C S2 ((r.ext N1.ext).ext N2.ext) (Ans.imp (Ans.bind A2) fun ρ3 h3 H3 w3 ⟨N3, S3, A3⟩ u3 ru3 => ?_)
        unfold lift at A3
        split at A3
        · rename_i b0 hb0
          exact cmp_ok C.K hu S3 (RV.ext N3.ext _ _ ru) ru3 hb0 (A3.val S3 rfl)
        · exact A3.elim
      · rename_i hb
        refine cmp_ok C.K hu S2 (RV.ext N2.ext _ _ rv) ru hb ⟨false, rfl, ?_⟩
        rw [if_neg Bool.false_ne_true]
        exact A2.val S2 rfl
      · exact A2.elim
    · cases ck
  | .and a b, D, e, ck => by
    intro E X ρ h H σ τ Q C S r A
    rw [ckE] at ck
    rw [evE_and] at A
    split at ck
    · rename_i x y q
      rw [Bool.and_eq_true] at ck
      have t : tAndV (wE X x) (wE X y) τ H Q := by
        refine sE a D x ck.1 C S r (Ans.imp (Ans.bind A) fun ρ1 h1 H1 w ⟨N1, S1, A1⟩ v rv => ?_)
        split at A1
        · refine ⟨true, rv.bl, ?_⟩
          rw [if_pos rfl]
          exact sE b D y ck.2 C S1 (r.ext N1.ext) A1
        · refine ⟨false, rv.bl, ?_⟩
          rw [if_neg Bool.false_ne_true]
          exact A1.val S1 rfl
        · exact A1.elim
      rcases asAnd_eq q with ⟨p, rfl⟩ | ⟨c, d', r', p, rfl, rfl⟩
      · exact PE.to (pe_and peW (pe_one peW)) t
      · exact PE.to (pe_and peW peW) t
    · cases ck
  | .or a b, D, e, ck => by
    intro E X ρ h H σ τ Q C S r A
    rw [ckE] at ck
    rw [evE_or] at A
    split at ck
    · rename_i x y q
      rw [Bool.and_eq_true] at ck
      have t : tOrV (wE X x) (wE X y) τ H Q := by
        refine sE a D x ck.1 C S r (Ans.imp (Ans.bind A) fun ρ1 h1 H1 w ⟨N1, S1, A1⟩ v rv => ?_)
        split at A1
        · refine ⟨false, rv.bl, ?_⟩
          rw [if_neg Bool.false_ne_true]
          exact sE b D y ck.2 C S1 (r.ext N1.ext) A1
        · refine ⟨true, rv.bl, ?_⟩
          rw [if_pos rfl]
          exact A1.val S1 rfl
        · exact A1.elim
      rcases asOr_eq q with ⟨p, rfl⟩ | ⟨c, d', r', p, rfl, rfl⟩
      · exact PE.to (pe_or peW (pe_one peW)) t
      · exact PE.to (pe_or peW peW) t
    · cases ck
  | .not a, D, e, ck => by
    intro E X ρ h H σ τ Q C S r A
    rw [ckE] at ck
    rw [evE_not] at A
    split at ck
    · rename_i x q
      obtain ⟨ps, rfl⟩ := asNot_eq q
      refine PE.to (pe_notT peW) (sE a D x ck C S r (Ans.imp (Ans.bind A) fun ρ1 h1 H1 w ⟨N1, S1, A1⟩ v rv => ?_))
      split at A1
      · rename_i t ht
        exact ⟨t, by rw [C.K]; exact truV_ok S1 rv ht, A1.val S1 rfl⟩
      · exact A1.elim
    · cases ck
  | .tup es, D, e, ck => by
    intro E X ρ h H σ τ Q C S r A
    rw [ckE] at ck
    rw [evE_tup] at A
    split at ck
    · rename_i xs q
      rw [Bool.and_eq_true] at ck
      obtain ⟨k, ps, rfl⟩ := asTup_eq q
      refine PE.to (pe_tup paW) (sEs es D xs ck.1 ck.2 C S r (Ans.imp (Ans.bind A) fun ρ1 h1 H1 ws ⟨N1, S1, A1⟩ vs rv => ?_))
      split at A1
      · rename_i hl
        exact ⟨by rw [← rv.length, ← line_eq]; exact hl, fun p hp => A1.tup S1 rv hp⟩
      · exact A1.elim
    · cases ck
  | .lst es, D, e, ck => by
    intro E X ρ h H σ τ Q C S r A
    rw [ckE] at ck
    rw [evE_lst] at A
    split at ck
    · rename_i xs q
      rw [Bool.and_eq_true] at ck
      obtain ⟨ps, rfl⟩ := asLst_eq q
      refine PE.to (pe_lst paW) (sEs es D xs ck.1 ck.2 C S r (Ans.imp (Ans.bind A) fun ρ1 h1 H1 ws ⟨N1, S1, A1⟩ vs rv => ?_))
      obtain ⟨hl, A2⟩ := newL_le A1
      exact ⟨by rw [← rv.length]; exact hl, fun p hp => A2.lst S1 rv hp⟩
    · cases ck
  | .dict t, D, e, ck => by
    intro E X ρ h H σ τ Q C S r A
    rw [ckE] at ck
    obtain ⟨p, rfl⟩ := asDict0_eq ck
    cases t <;> rw [evE_dict] at A
    case true => exact PE.to pe_dnewT (fun p hp => Ans.dT (xs := []) (ys := []) A S rfl hp)
    case false => exact PE.to pe_dnewK (fun p hp => Ans.dK (xs := []) (ys := []) A S rfl hp)
  | .disp es, D, e, ck => by
    intro E X ρ h H σ τ Q C S r A
    rw [ckE] at ck
    rw [evE_disp] at A
    split at ck
    · rename_i ks vs q
      obtain ⟨p, rfl, hl, hne, h15⟩ := asDisp_eq q
      refine PE.to (pe_disp (pps_all hl) (by simp) (by rw [List.length_map]; exact hl) (fun z => hne (List.map_eq_nil_iff.mp z)) (by rw [List.length_map]; exact h15)) fun pp hp => ?_
      have N0 : Nx ρ h H ρ h (upd H pp (.dK [])) := Nx.temp S hp
      refine sDs es D ks vs ck C (S.temp hp) (r.ext N0.ext) (Ans.imp (Ans.under A N0) fun ρ1 h1 H1 ws ⟨N1, S1, A1⟩ ps rps => ?_)
      have base : ∀ i, i < h.n → ρ i ≠ pp := fun i hi z => by
        obtain ⟨x, hx, _⟩ := S.has hi
        rw [z, hp] at hx
        cases hx
      have hD : H1 pp = some (.dK []) := N1.ext.keep pp _ upd_same base
      have hn : ∀ j, j < h1.n → ρ1 j ≠ pp := fun j hj z => by
        by_cases q : j < h.n
        · rw [N1.ext.ag j q] at z
          exact base j q z
        · have y := N1.ext.fresh j (by omega) hj
          rw [z, upd_same] at y
          cases y
      split at A1
      · rename_i dd hd
        split at A1
        · rename_i h30
          obtain ⟨kvs, k1, k2⟩ := dpairs_ok (acc := []) hd rps rfl
          subst k1
          have hlen : kvs.length ≤ 15 := by
            have z := rps.length
            have e1 : ∀ l : List (Key × V), ((l.map (fun kv => (kV kv.1, kv.2))).flatMap fun p => [p.1, p.2]).length = 2 * l.length := fun l => by
              induction l with
              | nil => rfl
              | cons a l ih => simp [List.flatMap_cons] at ih ⊢; omega
            rw [e1] at z
            omega
          refine ⟨hD, kvs, rfl, hlen, ?_⟩
          have kp0 : Kp ρ1 h1.n H1 ρ1 h1.n (upd H1 pp (.dK (mergeK [] kvs))) := pokeM_kp hD rfl
          have S2 : Sim M.G ρ1 h1 (upd H1 pp (.dK (mergeK [] kvs))) := S1.pokeM hD rfl hn
          have N2 : Nx ρ h H ρ1 h1 (upd H1 pp (.dK (mergeK [] kvs))) := (N0.trans N1).pokeM S hp
          have kp : Kp ρ1 h1.n (upd H1 pp (.dK (mergeK [] kvs))) (ext1 ρ1 h1.n pp) (h1.n + 1) (upd H1 pp (.dK (mergeK [] kvs))) := ⟨Nat.le_succ _, fun i hi => ext1_lt hi, fun b o e _ => e⟩
          exact A1 (ext1 ρ1 h1.n pp) _ (N2.adopt hp) (S2.adopt hn ⟨_, by rw [if_neg Bool.false_ne_true]; exact upd_same, RKV.kp kp _ _ (RKV.kp kp0 _ _ k2)⟩) (.ref pp) ⟨Nat.lt_succ_self _, by rw [ext1_same]⟩
        · exact A1.elim
      · exact A1.elim
    · cases ck
  | .attr a f, D, e, ck => by
    intro E X ρ h H σ τ Q C S r A
    rw [ckE] at ck
    rw [evE_attr] at A
    split at ck
    · rename_i x m q
      rw [Bool.and_eq_true, Bool.and_eq_true] at ck
      obtain ⟨ps, rfl⟩ := asAttr_eq q
      have hm : M.G.fn f = m := by
        rw [C.ok.fn, List.getD_eq_getElem?_getD, of_decide_eq_true ck.1.1]
        rfl
      subst hm
      refine PE.to (pe_fld peW (plainB_ok ck.1.2 _ _)) (sE a D x ck.2 C S r (Ans.imp (Ans.bind A) fun ρ1 h1 H1 w ⟨N1, S1, A1⟩ v rv => ?_))
      split at A1
      · rename_i w' hw
        obtain ⟨a', c, dx, ys, z, g1, g2, g3, g4, g5, g6⟩ := fld_ok C.ok S1 rv hw
        exact ⟨a', M.G.ca c, dx, ys, z, g1, g2, by rw [C.K]; exact g3, by rw [C.K]; exact g4, g5, A1.val S1 g6⟩
      · exact A1.elim
    · cases ck
  | .sub a b, D, e, ck => by
    intro E X ρ h H σ τ Q C S r A
    rw [ckE] at ck
    rw [evE_sub] at A
    split at ck
    · rename_i x y q
      rw [Bool.and_eq_true] at ck
      obtain ⟨hns, ps, rfl⟩ := asSub_eq q
      refine PE.to (pe_ix ixW peW peW (notSl_plain hns)) (sE a D x ck.1 C S r (Ans.imp (Ans.bind A) fun ρ1 h1 H1 w ⟨N1, S1, A1⟩ v rv => ?_))
      refine sE b D y ck.2 C S1 (r.ext N1.ext) (Ans.imp (Ans.bind A1) fun ρ2 h2 H2 w2 ⟨N2, S2, A2⟩ u ru => ?_)
      split at A2
      · rename_i w3 hw
        exact sub_ok C.K (by have := C.hu; omega) S2 (RV.ext N2.ext _ _ rv) ru hw fun z rz => A2.val S2 rz
      · exact A2.elim
    · cases ck
  | .cut a l u, D, e, ck => by
    intro E X ρ h H σ τ Q C S r A
    rw [ckE] at ck
    rw [evE_cut] at A
    split at ck
    · rename_i x lo hi q
      rw [Bool.and_eq_true, Bool.and_eq_true] at ck
      obtain ⟨p2, ps, rfl⟩ := asCut_eq q
      have t : tSl (wSl X) (wE X x) (partT X lo) (partT X hi) τ H Q := by
        refine sE a D x ck.1.1 C S r (Ans.imp (Ans.bind A) fun ρ1 h1 H1 w ⟨N1, S1, A1⟩ v rv => ?_)
        refine cut_part ck.1.2 (fun y0 hy => sE l D y0 hy) C S1 (r.ext N1.ext) A1 (fun ρ2 h2 H2 w2 o N2 S2 A2 ho => ?_) (fun w2 h2 ho => by simp only [ho])
        rw [ho] at A2
        refine cut_part ck.2 (fun y0 hy => sE u D y0 hy) C S2 ((r.ext N1.ext).ext N2.ext) A2 (fun ρ3 h3 H3 w3 o3 N3 S3 A3 ho3 => ?_) (fun w3 h3 ho3 => by simp only [ho3])
        rw [ho3] at A3
        exact cutW_ok C.K S3 (RV.ext N3.ext _ _ (RV.ext N2.ext _ _ rv)) A3
      exact PE.to (pe_slice slW peW (poT X lo) (poT X hi)) t
    · cases ck
  | .call f es, D, e, ck => by
    intro E X ρ h H σ τ Q C S r A
    rw [ckE] at ck
    rw [evE_call] at A
    split at ck
    · rename_i x xs q
      rw [Bool.or_eq_true] at ck
      rcases ck with ck | ck
      · have hg := C.ok.gone f (of_decide_eq_true ck)
        have hh : (M.cf d).has f = false := by
          show (M.T.fn f).isSome = false
          rw [hg]
          rfl
        rw [hh] at A
        exact (show False from A).elim
      simp only [Bool.and_eq_true] at ck
      obtain ⟨⟨⟨⟨c1, c2⟩, c3⟩, c4⟩, c5⟩ := ck
      obtain ⟨p, ps, rfl⟩ := asCallN_eq q
      obtain ⟨g1, g2, F, hF⟩ := C.ok.funs x f (of_decide_eq_true c3)
      have hh : (M.cf d).has f = true := by
        show (M.T.fn f).isSome = true
        rw [hF]
        rfl
      rw [hh] at A
      dsimp only at A
      have n1 := (nameOk_ok c2).1
      have z : wA X xs τ H fun vs H1 => spM M d f (vs ++ []) H1 Q E := by
        refine sEs es D xs c4 c5 C S r (Ans.imp (Ans.bind A) fun ρ1 h1 H1 ws ⟨N1, S1, A1⟩ vs rv => ?_)
        rw [List.append_nil]
        exact spM_of C.ok S1 rv A1
      cases xs with
      | nil =>
        cases es with
        | cons e0 es0 => simp [ckEs] at c5
        | nil =>
          simp only [evEs_nil, evEs_cons] at A
          have A1 : Ans M.G ρ h H (run M.T d f [] h) (PQ M.G Q) E := A
          exact PE.to (pe_call0 (dvs := []) (ds := []) (C.fnOk hF) (C.room.mono (Nat.le_succ _)) (C.gl c1) (by rw [C.mg]; exact g1) (by rw [C.K]; exact g2) (C.binds hF) .nil C.pas' n1) (show spM M d f ([] ++ []) H Q E from spM_of (ws := []) (vs := []) C.ok S rfl A1)
      | cons y ys =>
        rw [List.all_cons, Bool.and_eq_true] at c4
        exact PE.to (pe_call (dvs := []) (ds := []) (C.fnOk hF) (C.room.mono (Nat.le_succ _)) (C.gl c1) (by rw [C.mg]; exact g1) (by rw [C.K]; exact g2) (C.binds hF) .nil C.pas' paW n1 (star_cons c4.1 ys X.env) (star_any ps X.env c4.2)) z
    · cases ck
  | .meth o m es, D, e, ck => by
    intro E X ρ h H σ τ Q C S r A
    rw [ckE] at ck
    rw [evE_meth] at A
    split at ck
    · rename_i x k xs q
      simp only [Bool.and_eq_true] at ck
      obtain ⟨⟨⟨⟨⟨c1, c2⟩, c3⟩, c4⟩, c5⟩, c6⟩ := ck
      obtain ⟨p, ps, hl, rfl⟩ := asCallA_eq q
      have hm : M.G.fn m = k := by
        rw [C.ok.fn, List.getD_eq_getElem?_getD, of_decide_eq_true c1]
        rfl
      subst hm
      refine wE_ometh (E := E) c3 (of_decide_eq_true c4) (plainB_ok c2 _ _) hl C.pas' (sE o D x c5 C S r (Ans.imp (Ans.bind A) fun ρ1 h1 H1 w ⟨N1, S1, A1⟩ v rv => ?_))
      split at A1
      · rename_i a _hh
        obtain ⟨ha, rfl⟩ := rv.ref
        split at A1
        · rename_i c fs hga
          split at A1
          · rename_i f hf hl0
            obtain ⟨b1, b2, hM, F, hF⟩ := C.ok.meth c m f hf
            obtain ⟨dx, ys, h1', h2', _, h4⟩ := S1.ins ha hga
            have z := h2'.look m (fun j hj e => C.ok.inj j m (by have := h4 j hj; rw [C.ok.nf] at this; exact this) b2 e)
            rw [hl0] at z
            refine ⟨_, M.G.ca c, dx, M.fa f, ys, M.fd f, lv d, spM M d f, M.fp f, rfl, h1', by rw [lookup_val]; exact z, by rw [C.K]; exact C.ok.cls c b1, by rw [C.K]; exact hM, C.fnOk hF, C.room.mono (Nat.le_succ _), C.binds hF, fun e0 => ?_, fun _ => ?_⟩
            · subst e0
              cases es with
              | cons e0 es0 => simp [ckEs] at c6
              | nil =>
                simp only [evEs_nil, evEs_cons] at A1
                exact spM_of (ws := [.ref a]) C.ok S1 ⟨_, [], rfl, ⟨ha, rfl⟩, rfl⟩ A1
            · refine sEs es D xs c3 c6 C S1 (r.ext N1.ext) (Ans.imp (Ans.bind A1) fun ρ2 h2 H2 ws ⟨N2, S2, A2⟩ vs rvs => ?_)
              exact spM_of (ws := .ref a :: ws) C.ok S2 ⟨_, vs, rfl, RV.ext N2.ext (.ref a) _ ⟨ha, rfl⟩, rvs⟩ A2
          · exact A1.elim
        · exact A1.elim
      · exact A1.elim
    · cases ck
  | .make c es, D, e, ck => by
    intro E X ρ h H σ τ Q C S r A
    rw [ckE] at ck
    rw [evE_make] at A
    split at ck
    · rename_i x xs q
      rw [Bool.or_eq_true] at ck
      rcases ck with ck | ck
      · have hg : (M.cf d).init c = none := C.ok.goneC c (of_decide_eq_true ck)
        rw [hg] at A
        exact (show False from A).elim
      simp only [Bool.and_eq_true] at ck
      obtain ⟨⟨⟨⟨c1, c2⟩, c3⟩, c4⟩, c5⟩ := ck
      obtain ⟨p, ps, rfl⟩ := asCallN_eq q
      obtain ⟨g1, f, F, hf, hF⟩ := C.ok.clss x c (of_decide_eq_true c3)
      have n1 := (nameOk_ok c2).1
      have hf' : (M.cf d).init c = some f := hf
      rw [hf'] at A
      dsimp only at A
      have tail : ∀ {ρ1 : Nat → Addr} {h1 : Hm} {H1 : Hp} {ws : List W} {vs : List V}, Sim M.G ρ1 h1 H1 → RVs M.G ρ1 h1.n H1 ws vs → Ans M.G ρ1 h1 H1 (((M.cf d).call f (.ref h1.n :: ws) (h1.push (.ins c []))).bind fun r h' => match r with
            | .non => .ok (.ref h1.n) h'
            | _ => .st) (PQ M.G Q) E → ∀ y dx, H1 y = none → H1 dx = none → dx ≠ y → spM M d f (.ref y :: (vs ++ [])) (upd (upd H1 dx (.own y)) y (.ins (M.G.ca c) dx [])) (fun v H2 => v = .non ∧ Q (.ref y) H2) E := fun {ρ1 h1 H1 ws vs} S1 rv A1 y dx hy hdx hne => by
        have hy2 : upd H1 dx (.own y) y = none := by rw [upd_ne (fun z => hne z.symm)]; exact hy
        have S2 := (S1.temp (u := .own y) hdx)
        have S3 := S2.new (u := .ins (M.G.ca c) dx []) (o := .ins c []) hy2 ⟨dx, [], upd_same, rfl, by simp, by simp⟩
        have N2 : Nx ρ1 h1 H1 (ext1 ρ1 h1.n y) (h1.push (.ins c [])) (upd (upd H1 dx (.own y)) y (.ins (M.G.ca c) dx [])) := (Nx.temp S1 hdx).trans (Nx.new S2 hy2)
        have A2 := Ans.imp (Ans.bind (A1.from N2)) (P' := PQ M.G fun v H2 => v = .non ∧ Q (.ref y) H2) fun ρ3 h3 H3 w ⟨N3, S4, A3⟩ v rv3 => by
          split at A3
          · refine ⟨rv3, A3.val S4 ⟨Nat.lt_of_lt_of_le (Nat.lt_succ_self _) N3.ext.le, ?_⟩⟩
            rw [N3.ext.ag h1.n (Nat.lt_succ_self _), ext1_same]
          · exact A3.elim
        refine spM_of (ws := .ref h1.n :: ws) C.ok S3 ⟨_, _, rfl, ⟨Nat.lt_succ_self _, by rw [ext1_same]⟩, ?_⟩ A2
        rw [List.append_nil]
        exact RVs.ext N2.ext _ _ rv
      have mk := C.ok.mak c f hf
      cases xs with
      | nil =>
        cases es with
        | cons e0 es0 => simp [ckEs] at c5
        | nil =>
          simp only [evEs_nil, evEs_cons] at A
          exact PE.to (pe_make0 (dvs := []) (ds := []) (by rw [C.K]; exact mk) (C.fnOk hF) C.room (C.gl c1) (by rw [C.mg]; exact g1) (C.binds hF) .nil C.pas' n1) (tail (ws := []) (vs := []) S rfl A)
      | cons y ys =>
        rw [List.all_cons, Bool.and_eq_true] at c4
        refine PE.to (pe_make (dvs := []) (ds := []) (by rw [C.K]; exact mk) (C.fnOk hF) C.room (C.gl c1) (by rw [C.mg]; exact g1) (C.binds hF) .nil C.pas' paW n1 (star_cons c4.1 ys X.env) (star_any ps X.env c4.2)) ?_
        refine sEs es D (y :: ys) (by rw [List.all_cons, Bool.and_eq_true]; exact c4) c5 C S r (Ans.imp (Ans.bind A) fun ρ1 h1 H1 ws ⟨N1, S1, A1⟩ vs rv => ?_)
        exact tail S1 rv A1
    · cases ck
  | .bi f es, D, e, ck => by
    intro E X ρ h H σ τ Q C S r A
    rw [ckE] at ck
    rw [evE_bi] at A
    split at ck
    · rename_i x xs q
      obtain ⟨p, ps, rfl⟩ := asCallN_eq q
      split at ck
      · rename_i y hy
        simp only [Bool.and_eq_true] at ck
        obtain ⟨⟨⟨⟨c1, c2⟩, c3⟩, c4⟩, c5⟩ := ck
        have := of_decide_eq_true c1
        subst this
        obtain ⟨v, hv, hT⟩ := biV_some hy
        obtain ⟨g1, g2, g3, g4⟩ := C.blt c2
        refine wE_bi hT c3 (by simpa using c4) g1 g2 (boot_bi hy hv) g3 g4 (sEs es D xs c3 c5 C S r (Ans.imp (Ans.bind A) fun ρ1 h1 H1 ws ⟨N1, S1, A1⟩ vs rv => ?_))
        exact bi_ok C.K C.calm C.hu S1 hv rv A1
      · split at ck
        · rename_i a
          rw [bind_one] at A
          split at ck
          · rename_i T hT
            split at ck
            · rename_i y z
              simp only [Bool.and_eq_true] at ck
              obtain ⟨⟨⟨⟨⟨c1, c2⟩, c3⟩, c4⟩, c5⟩, c6⟩ := ck
              split at c6
              · rename_i n qn
                obtain ⟨pn, rfl⟩ := asName_eq qn
                rw [Bool.and_eq_true] at c6
                have := of_decide_eq_true c1
                subst this
                have := of_decide_eq_true c6.1
                subst this
                obtain ⟨g1, g2, g3, g4⟩ := C.blt c2
                obtain ⟨k1, k2, k3, k4⟩ := C.blt c6.2
                obtain ⟨_, hT4⟩ := bi_ty hT .non h
                refine wE_bi (.inl ⟨_, rfl⟩) (by simp [c3, c4]) rfl g1 g2 PyProof.Rows.boot_isinstance g3 g4 (PA.to (pa_cons peW (pa_cons (pe_bltn (v := .ty (tyN T)) k1 k2 (boot_ty hT4) rfl k4 k3) pa_nil (star_cons c4 [] X.env)) (star_cons c3 _ X.env)) ?_)
                refine sE a D y c5 C S r (Ans.imp (Ans.bind A) fun ρ1 h1 H1 w ⟨N1, S1, A1⟩ v rv => ?_)
                rw [(bi_ty hT w h1).1] at A1
                exact is_ok C.K S1 hT4 rv A1
              · cases c6
            · cases ck
          · split at ck
            · split at ck
              · rename_i y
                simp only [Bool.and_eq_true] at ck
                obtain ⟨⟨c1, c2⟩, c3⟩ := ck
                split at c3
                · rename_i n z qn
                  simp only [Bool.and_eq_true] at c3
                  obtain ⟨⟨⟨d1, d2⟩, d3⟩, d4⟩ := c3
                  obtain ⟨p2, p3, rfl⟩ := asCallN_eq qn
                  have := of_decide_eq_true c1
                  subst this
                  have := of_decide_eq_true d1
                  subst this
                  obtain ⟨g1, g2, g3, g4⟩ := C.blt c2
                  obtain ⟨k1, k2, k3, k4⟩ := C.blt d2
                  refine PE.to (pe_lenSetW C.calm g1 g2 k1 k2 peW (star_cons d3 [] X.env)) (sE a D z d4 C S r (Ans.imp (Ans.bind A) fun ρ1 h1 H1 w ⟨N1, S1, A1⟩ v rv => ?_))
                  exact lenset_ok C.K S1 rv A1
                · cases c3
              · cases ck
            · split at ck
              · rename_i y
                simp only [Bool.and_eq_true] at ck
                obtain ⟨⟨c1, c2⟩, c3⟩ := ck
                split at c3
                · rename_i n z qn
                  simp only [Bool.and_eq_true] at c3
                  obtain ⟨⟨⟨d1, d2⟩, d3⟩, d4⟩ := c3
                  obtain ⟨p2, p3, rfl⟩ := asCallN_eq qn
                  have := of_decide_eq_true c1
                  subst this
                  have := of_decide_eq_true d1
                  subst this
                  obtain ⟨g1, g2, g3, g4⟩ := C.blt c2
                  obtain ⟨k1, k2, k3, k4⟩ := C.blt d2
                  refine PE.to (pe_listRev C.calm g1 g2 k1 k2 peW (star_cons d3 [] X.env) (star_cons rfl [] X.env)) (sE a D z d4 C S r (Ans.imp (Ans.bind A) fun ρ1 h1 H1 w ⟨N1, S1, A1⟩ v rv => ?_))
                  exact listrev_ok C.K S1 rv A1
                · cases c3
              · cases ck
            · split at ck
              · rename_i y
                simp only [Bool.and_eq_true] at ck
                obtain ⟨⟨c1, c2⟩, c3⟩ := ck
                split at c3
                · rename_i o n qn
                  simp only [Bool.and_eq_true] at c3
                  obtain ⟨⟨d1, d2⟩, d3⟩ := c3
                  obtain ⟨p2, p3, hl, rfl⟩ := asCallA_eq qn
                  have := of_decide_eq_true c1
                  subst this
                  have := of_decide_eq_true d1
                  subst this
                  obtain ⟨g1, g2, g3, g4⟩ := C.blt c2
                  refine PE.to (LiI.pe_listItems C.calm peW g1 g2 PyProof.Rows.boot_list (plainB_ok d2 _ _) hl (star_cons rfl [] X.env)) (sE a D o d3 C S r (Ans.imp (Ans.bind A) fun ρ1 h1 H1 w ⟨N1, S1, A1⟩ v rv => ?_))
                  exact listitems_ok S1 rv A1
                · cases c3
              · cases ck
            · cases ck
        · cases ck
    · cases ck
  | .bm m o es, D, e, ck => by
    intro E X ρ h H σ τ Q C S r A
    rw [ckE] at ck
    rw [evE_bm] at A
    split at ck
    · rename_i x k xs q
      simp only [Bool.and_eq_true] at ck
      obtain ⟨⟨⟨⟨⟨c1, c2⟩, c3⟩, c4⟩, c5⟩, c6⟩ := ck
      obtain ⟨p, ps, hl, rfl⟩ := asCallA_eq q
      have := of_decide_eq_true c1
      subst this
      have hu : X.A.units + 70 < cLine := C.hu
      cases xs with
      | nil =>
        refine wE_meth0 (sE o D x c5 C S r (Ans.imp (Ans.bind A) fun ρ1 h1 H1 w ⟨N1, S1, A1⟩ v rv => ?_)) (plainB_ok c2 _ _) hl
        split at A1
        · rename_i T hT
          split at A1
          · rename_i hok
            cases es with
            | cons e0 es0 => simp [ckEs] at c6
            | nil =>
              simp only [evEs_nil, evEs_cons] at A1
              have A2 : Ans M.G ρ1 h1 H1 (if kindW w h1 = some T then Mn.bm m w [] h1 else .st) (PQ M.G Q) E := A1
              rw [if_pos hT] at A2
              obtain ⟨id, hid, hw⟩ := bm_ok C.K hu S1 hT rv (ws := []) (vs := []) rfl A2
              exact ⟨kN T, id, mtF hid, kind_ok C.K S1 rv hT, hw⟩
          · exact A1.elim
        · exact A1.elim
      | cons y ys =>
        have c3' := c3
        rw [List.all_cons, Bool.and_eq_true] at c3'
        refine wE_meth (sE o D x c5 C S r (Ans.imp (Ans.bind A) fun ρ1 h1 H1 w ⟨N1, S1, A1⟩ v rv => ?_)) (plainB_ok c2 _ _) ?_ hl (star_cons c3'.1 ys X.env) (star_any ps X.env c3'.2)
        · split at A1
          · rename_i T hT
            split at A1
            · rename_i hok
              obtain ⟨id, hid⟩ := bmId_some hok
              refine ⟨kN T, id, mtF hid, kind_ok C.K S1 rv hT, ?_⟩
              refine sEs es D (y :: ys) c3 c6 C S1 (r.ext N1.ext) (Ans.imp (Ans.bind A1) fun ρ2 h2 H2 ws ⟨N2, S2, A2⟩ vs rvs => ?_)
              split at A2
              · rename_i hT2
                obtain ⟨id', hid', hw⟩ := bm_ok C.K hu S2 hT2 (RV.ext N2.ext _ _ rv) rvs A2
                rw [hid] at hid'
                cases hid'
                exact hw
              · exact A2.elim
            · exact A1.elim
          · exact A1.elim
        · rw [star_all ps X.env c3]
          have z : (y :: ys).length < 30 := of_decide_eq_true c4
          have e1 : (backToKw ps (keywordEach [] X.env)) = [] := rfl
          rw [e1]
          simp
          simpa using z
    · cases ck
  | .comp e0 t it c, D, e, ck => by
    intro E X ρ h H σ τ Q C S r A
    rw [ckE] at ck
    rw [evE_comp] at A
    split at ck
    · rename_i elt tg iter cond sc q
      simp only [Bool.and_eq_true] at ck
      obtain ⟨⟨⟨⟨⟨c1, c2⟩, c3⟩, c4⟩, c5⟩, c6⟩ := ck
      obtain ⟨p, rfl⟩ := asLC_eq q
      refine lock_wE S r (fun h H Q S r A => comp_core (c := c) c1 c2 c3 (sE e0 ⟨D.N, sc⟩ elt c5) ?_ (sI it D tg iter c4) C S r A) A
      split at c6
      · exact c6
      · rename_i y
        exact sT c ⟨D.N, sc⟩ y c6
    · cases ck
  | .no, D, e, ck => by
    intro E X ρ h H σ τ Q C S r A
    exact (show False from A).elim
theorem sEs : ∀ (ms : Exs) (D : Dt) (es : List Expr), es.all notStar = true → ckEs M.tb ms D es = true → SEs M d ms D es
  | .nil, D, [], _, _ => by
    intro E X ρ h H σ τ Q C S r A
    simp only [evEs_nil, evEs_cons] at A
    exact PA.to pa_nil (Ans.now (a := ([] : List W)) A S [] rfl)
  | .nil, D, _ :: _, _, ck => by simp [ckEs] at ck
  | .cons _ _, D, [], _, ck => by simp [ckEs] at ck
  | .cons m ms, D, e :: es, hs, ck => by
    intro E X ρ h H σ τ Q C S r A
    rw [ckEs] at ck
    simp only [evEs_nil, evEs_cons] at A
    rw [Bool.and_eq_true] at ck
    rw [List.all_cons, Bool.and_eq_true] at hs
    refine PA.to (pa_cons peW paW (star_cons hs.1 es X.env)) (sE m D e ck.1 C S r (Ans.imp (Ans.bind A) fun ρ1 h1 H1 w ⟨N1, S1, A1⟩ v rv => ?_))
    refine sEs ms D es hs.2 ck.2 C S1 (r.ext N1.ext) (Ans.imp (Ans.bind A1) fun ρ2 h2 H2 ws ⟨N2, S2, A2⟩ vs rvs => ?_)
    exact Ans.now (a := w :: ws) A2 S2 (v :: vs) ⟨v, vs, rfl, RV.ext N2.ext _ _ rv, rvs⟩
theorem sDs : ∀ (ms : Exs) (D : Dt) (ks vs : List Expr), ckEs M.tb ms D (inter ks vs) = true → SDs M d ms D ks vs
  | .nil, D, ks, vs, ck => by
    intro E X ρ h H σ τ Q C S r A
    cases ks with
    | nil => exact Ans.now (a := ([] : List W)) A S [] rfl
    | cons k ks =>
      cases vs with
      | nil => exact Ans.now (a := ([] : List W)) A S [] rfl
      | cons v vs => simp [inter, ckEs] at ck
  | .cons m .nil, D, ks, vs, ck => by
    cases ks with
    | nil => simp [inter, ckEs] at ck
    | cons k ks =>
      cases vs with
      | nil => simp [inter, ckEs] at ck
      | cons v vs => simp [inter, ckEs] at ck
  | .cons m (.cons m2 ms), D, ks, vs, ck => by
    intro E X ρ h H σ τ Q C S r A
    cases ks with
    | nil => simp [inter, ckEs] at ck
    | cons k ks =>
      cases vs with
      | nil => simp [inter, ckEs] at ck
      | cons v vs =>
        have ck' : (ckE M.tb m D k && (ckE M.tb m2 D v && ckEs M.tb ms D (inter ks vs))) = true := by
          rw [inter, ckEs, ckEs] at ck
          exact ck
        rw [Bool.and_eq_true, Bool.and_eq_true] at ck'
        simp only [evEs_cons] at A
        refine sE m D k ck'.1 C S r (Ans.imp (Ans.bind A) fun ρ1 h1 H1 w ⟨N1, S1, A1⟩ x rx => ?_)
        have e : ((evE (M.cf d) m2 σ h1).bind fun x h => (evEs (M.cf d) ms σ h).bind fun xs h => .ok (x :: xs) h).bind (fun xs h => Mn.R.ok (w :: xs) h) = ((evE (M.cf d) m2 σ h1).bind fun x h => (evEs (M.cf d) ms σ h).bind fun xs h => Mn.R.ok (w :: x :: xs) h) := by
          rw [bindA]
          congr 1
          funext x hh
          rw [bindA]
          rfl
        have A1' : Ans M.G ρ1 h1 H1 ((evE (M.cf d) m2 σ h1).bind fun x h => (evEs (M.cf d) ms σ h).bind fun xs h => Mn.R.ok (w :: x :: xs) h) (fun ρ' h' H' ws => ∀ ps : List (V × V), RVs M.G ρ' h'.n H' ws (ps.flatMap fun p => [p.1, p.2]) → Q ps H') E := by
          rw [← e]
          exact A1
        refine sE m2 D v ck'.2.1 C S1 (r.ext N1.ext) (Ans.imp (Ans.bind A1') fun ρ2 h2 H2 w2 ⟨N2, S2, A2⟩ y ry => ?_)
        refine sDs ms D ks vs ck'.2.2 C S2 ((r.ext N1.ext).ext N2.ext) (Ans.imp (Ans.bind A2) fun ρ3 h3 H3 ws ⟨N3, S3, A3⟩ ps rps => ?_)
        exact Ans.now (a := w :: w2 :: ws) A3 S3 ((x, y) :: ps) ⟨x, _, rfl, RV.ext N3.ext _ _ (RV.ext N2.ext _ _ rx), y, _, rfl, RV.ext N3.ext _ _ ry, rps⟩
theorem sT : ∀ (m : Ex) (D : Dt) (e : Expr), ckE M.tb m D e = true → ST M d m D e
  | .and a b, D, e, ck => by
    intro E X ρ h H σ τ R C S r A
    rw [ckE] at ck
    rw [evT_and] at A
    split at ck
    · rename_i x y q
      rw [Bool.and_eq_true] at ck
      have t : tAnd (wT X x) (wT X y) τ H R := by
        refine sT a D x ck.1 C S r (Ans.imp (Ans.bind A) fun ρ1 h1 H1 b0 ⟨N1, S1, A1⟩ => ?_)
        cases b0 with
        | true =>
          rw [if_pos rfl]
          exact sT b D y ck.2 C S1 (r.ext N1.ext) A1
        | false =>
          rw [if_neg Bool.false_ne_true]
          exact Ans.now (a := false) A1 S1
      rcases asAnd_eq q with ⟨p, rfl⟩ | ⟨c, d', r', p, rfl, rfl⟩
      · exact PT.to (pw_and ptW (pw_and1 ptW)).pt t
      · exact PT.to (pw_and ptW pw_of).pt t
    · cases ck
  | .or a b, D, e, ck => by
    intro E X ρ h H σ τ R C S r A
    rw [ckE] at ck
    rw [evT_or] at A
    split at ck
    · rename_i x y q
      rw [Bool.and_eq_true] at ck
      have t : tOr (wT X x) (wT X y) τ H R := by
        refine sT a D x ck.1 C S r (Ans.imp (Ans.bind A) fun ρ1 h1 H1 b0 ⟨N1, S1, A1⟩ => ?_)
        cases b0 with
        | true =>
          rw [if_pos rfl]
          exact Ans.now (a := true) A1 S1
        | false =>
          rw [if_neg Bool.false_ne_true]
          exact sT b D y ck.2 C S1 (r.ext N1.ext) A1
      rcases asOr_eq q with ⟨p, rfl⟩ | ⟨c, d', r', p, rfl, rfl⟩
      · exact PT.to (pw_or ptW (pw_or1 ptW)).pt t
      · exact PT.to (pw_or ptW pw_of).pt t
    · cases ck
  | .not a, D, e, ck => by
    intro E X ρ h H σ τ R C S r A
    rw [ckE] at ck
    rw [evT_not] at A
    split at ck
    · rename_i x q
      obtain ⟨p, rfl⟩ := asNot_eq q
      refine PT.to (pt_not ptW) (sT a D x ck C S r (Ans.imp (Ans.bind A) fun ρ1 h1 H1 b0 ⟨N1, S1, A1⟩ => ?_))
      exact Ans.now (a := !b0) A1 S1
    · cases ck
  | .cmp o a b, D, e, ck => by
    intro E X ρ h H σ τ R C S r A
    rw [ckE] at ck
    rw [evT_cmp] at A
    split at ck
    · rename_i p x y q
      rw [Bool.and_eq_true, Bool.and_eq_true, Bool.and_eq_true] at ck
      obtain ⟨ps, rfl⟩ := asCmp_eq q
      have := of_decide_eq_true ck.1.1.1
      subst this
      refine PT.to (pt_cmpR orW peW peW (noSet_mark ck.1.1.2 _)) (sE a D x ck.1.2 C S r (Ans.imp (Ans.bind A) fun ρ1 h1 H1 w ⟨N1, S1, A1⟩ v rv => ?_))
      refine sE b D y ck.2 C S1 (r.ext N1.ext) (Ans.imp (Ans.bind A1) fun ρ2 h2 H2 w2 ⟨N2, S2, A2⟩ u ru => ?_)
      split at A2
      · rename_i b0 hb
        exact cmp_ok C.K (by have := C.hu; omega) S2 (RV.ext N2.ext _ _ rv) ru hb ⟨b0, rfl, Ans.now (a := b0) A2 S2⟩
      · exact A2.elim
    · cases ck
  | .cmp2 o p a b c, D, e, ck => by
    intro E X ρ h H σ τ R C S r A
    rw [ckE] at ck
    rw [evT_cmp2] at A
    split at ck
    · rename_i o' p' x y z q
      simp only [Bool.and_eq_true] at ck
      obtain ⟨⟨⟨⟨⟨c1, c2⟩, c3⟩, c4⟩, c5⟩, c6⟩ := ck
      obtain ⟨ps, rfl⟩ := asCmp2_eq q
      have := of_decide_eq_true c1
      subst this
      have := of_decide_eq_true c2
      subst this
      refine PT.to (pt_chain orW orW peW peW peW (by show behindInMarks (cop p) z = false; exact noSet_mark c3 _)) (sE a D x c4 C S r (Ans.imp (Ans.bind A) fun ρ1 h1 H1 w ⟨N1, S1, A1⟩ v rv => ?_))
      refine sE b D y c5 C S1 (r.ext N1.ext) (Ans.imp (Ans.bind A1) fun ρ2 h2 H2 w2 ⟨N2, S2, A2⟩ u ru => ?_)
      have hu : X.A.units + 65 < cLine := by have := C.hu; omega
      split at A2
      · rename_i hb
        refine cmp_ok C.K hu S2 (RV.ext N2.ext _ _ rv) ru hb ⟨true, rfl, ?_⟩
        rw [if_pos rfl]
        refine sE c D z c6 C S2 ((r.ext N1.ext).ext N2.ext) (Ans.imp (Ans.bind A2) fun ρ3 h3 H3 w3 ⟨N3, S3, A3⟩ u3 ru3 => ?_)
        split at A3
        · rename_i b0 hb0
          exact cmp_ok C.K hu S3 (RV.ext N3.ext _ _ ru) ru3 hb0 ⟨b0, rfl, Ans.now (a := b0) A3 S3⟩
        · exact A3.elim
      · rename_i hb
        refine cmp_ok C.K hu S2 (RV.ext N2.ext _ _ rv) ru hb ⟨false, rfl, ?_⟩
        rw [if_neg Bool.false_ne_true]
        exact ⟨false, rfl, Ans.now (a := false) A2 S2⟩
      · exact A2.elim
    · cases ck
  | .loc i, D, e, ck => tst_val (fun σ h => toW_asB _) (val_form ck rfl) (sE (.loc i) D e ck)
  | .con w, D, e, ck => tst_val (fun σ h => toW_asB _) (val_form ck rfl) (sE (.con w) D e ck)
  | .bin o a b, D, e, ck => tst_val (fun σ h => toW_asB _) (val_form ck rfl) (sE (.bin o a b) D e ck)
  | .neg a, D, e, ck => tst_val (fun σ h => toW_asB _) (val_form ck rfl) (sE (.neg a) D e ck)
  | .tup es, D, e, ck => tst_val (fun σ h => toW_asB _) (val_form ck rfl) (sE (.tup es) D e ck)
  | .lst es, D, e, ck => tst_val (fun σ h => toW_asB _) (val_form ck rfl) (sE (.lst es) D e ck)
  | .dict t, D, e, ck => tst_val (fun σ h => toW_asB _) (val_form ck rfl) (sE (.dict t) D e ck)
  | .disp es, D, e, ck => tst_val (fun σ h => toW_asB _) (val_form ck rfl) (sE (.disp es) D e ck)
  | .attr a f, D, e, ck => tst_val (fun σ h => toW_asB _) (val_form ck rfl) (sE (.attr a f) D e ck)
  | .sub a b, D, e, ck => tst_val (fun σ h => toW_asB _) (val_form ck rfl) (sE (.sub a b) D e ck)
  | .cut a l u, D, e, ck => tst_val (fun σ h => toW_asB _) (val_form ck rfl) (sE (.cut a l u) D e ck)
  | .call f es, D, e, ck => tst_val (fun σ h => toW_asB _) (val_form ck rfl) (sE (.call f es) D e ck)
  | .meth o m es, D, e, ck => tst_val (fun σ h => toW_asB _) (val_form ck rfl) (sE (.meth o m es) D e ck)
  | .make c es, D, e, ck => tst_val (fun σ h => toW_asB _) (val_form ck rfl) (sE (.make c es) D e ck)
  | .bi f es, D, e, ck => tst_val (fun σ h => toW_asB _) (val_form ck rfl) (sE (.bi f es) D e ck)
  | .bm m o es, D, e, ck => tst_val (fun σ h => toW_asB _) (val_form ck rfl) (sE (.bm m o es) D e ck)
  | .comp e0 t it c, D, e, ck => tst_val (fun σ h => toW_asB _) (val_form ck rfl) (sE (.comp e0 t it c) D e ck)
  | .no, D, e, ck => by
    intro E X ρ h H σ τ R C S r A
    exact (show False from A).elim
theorem sI : ∀ (it : It) (D : Dt) (tg iter : Expr), ckI M.tb it D (isTupE tg) iter = true → SI M d it D tg iter
  | .val e, D, tg, iter, ck => by
    intro E X ρ h H σ τ R C S r A
    rw [ckI] at ck
    rw [evI_val] at A
    refine wPI_val (sE e D iter ck C S r (Ans.imp (Ans.bind A) fun ρ1 h1 H1 w ⟨N1, S1, A1⟩ v rv => ?_))
    split at A1
    · rename_i p hp
      exact plan_ok C.K S1 rv hp (A1.now S1)
    · exact A1.elim
  | .rng a b, D, tg, iter, ck => by
    intro E X ρ h H σ τ R C S r A
    rw [ckI] at ck
    rw [evI_rng] at A
    have fin : ∀ {ρ1 : Nat → Addr} {h1 : Hm} {H1 : Hp} {w w2 : W} {v u : V}, Sim M.G ρ1 h1 H1 → RV M.G ρ1 h1.n H1 w v → RV M.G ρ1 h1.n H1 w2 u → Ans M.G ρ1 h1 H1 (match w, w2 with
        | .int i, .int j => if -(2 ^ 62) ≤ i ∧ i < 2 ^ 62 ∧ -(2 ^ 62) ≤ j ∧ j < 2 ^ 62 then Mn.R.ok (⟨rngL (j - i).toNat i, []⟩ : Plan) h1 else .st
        | _, _ => .st) (fun ρ1 h1 H1 p => ∀ J, Wk M.G J p ρ1 h1 H1 → R J H1) E → ∃ i j : Int, v = .int i ∧ u = .int j ∧ (-(2 ^ 62) ≤ i ∧ i < 2 ^ 62 ∧ -(2 ^ 62) ≤ j ∧ j < 2 ^ 62) ∧ R (Itr i (j - i).toNat) H1 := fun {ρ1 h1 H1 w w2 v u} S1 rv ru A1 => by
      split at A1
      · split at A1
        · rename_i i j hc
          exact ⟨i, j, rv.int, ru.int, hc, A1.now S1 _ wk_rng⟩
        · exact A1.elim
      · exact A1.elim
    split at ck
    · rename_i n y q
      simp only [Bool.and_eq_true] at ck
      obtain ⟨⟨⟨⟨c1, c2⟩, c3⟩, c4⟩, c5⟩ := ck
      obtain ⟨p, ps, rfl⟩ := asCallN_eq q
      have := of_decide_eq_true c1
      subst this
      obtain ⟨g1, g2, g3, g4⟩ := C.blt c2
      have hz : a = .con (.int 0) := by
        unfold isZero at c4
        split at c4
        · rfl
        · cases c4
      subst hz
      have e1 : evE (M.cf d) (.con (.int 0)) σ h = .ok (.int 0) h := rfl
      rw [e1] at A
      have A0 : Ans M.G ρ h H ((evE (M.cf d) b σ h).bind fun y h => match W.int 0, y with
        | .int i, .int j => if -(2 ^ 62) ≤ i ∧ i < 2 ^ 62 ∧ -(2 ^ 62) ≤ j ∧ j < 2 ^ 62 then Mn.R.ok (⟨rngL (j - i).toNat i, []⟩ : Plan) h else .st
        | _, _ => .st) (fun ρ1 h1 H1 p => ∀ J, Wk M.G J p ρ1 h1 H1 → R J H1) E := A
      refine PI.to (pi_range1 g1 g2 paW (star_cons c3 [] X.env)) (PA.to (pa_cons peW pa_nil (star_cons c3 [] X.env)) (sE b D y c5 C S r (Ans.imp (Ans.bind A0) fun ρ1 h1 H1 w ⟨N1, S1, A1⟩ v rv => ?_)))
      obtain ⟨i, j, hi, hj, hc, hR⟩ := fin (w := .int 0) (v := .int 0) S1 rfl rv A1
      cases hi
      subst hj
      refine ⟨j, rfl, hc.2.2.1, hc.2.2.2, ?_⟩
      rw [Int.sub_zero] at hR
      exact hR
    · rename_i n y z q
      simp only [Bool.and_eq_true] at ck
      obtain ⟨⟨⟨⟨⟨c1, c2⟩, c3⟩, c4⟩, c5⟩, c6⟩ := ck
      obtain ⟨p, ps, rfl⟩ := asCallN_eq q
      have := of_decide_eq_true c1
      subst this
      obtain ⟨g1, g2, g3, g4⟩ := C.blt c2
      have s2 : starEach [z] X.env = [(false, eval z X.env)] := star_cons c4 [] X.env
      refine PI.to (pi_range2 g1 g2 paW (by rw [star_cons c3, s2]) s2) (PA.to (pa_cons peW (pa_cons peW pa_nil (star_cons c4 [] X.env)) (star_cons c3 _ X.env)) (sE a D y c5 C S r (Ans.imp (Ans.bind A) fun ρ1 h1 H1 w ⟨N1, S1, A1⟩ v rv => ?_)))
      refine sE b D z c6 C S1 (r.ext N1.ext) (Ans.imp (Ans.bind A1) fun ρ2 h2 H2 w2 ⟨N2, S2, A2⟩ u ru => ?_)
      obtain ⟨i, j, rfl, rfl, hc, hR⟩ := fin S2 (RV.ext N2.ext _ _ rv) ru A2
      exact ⟨i, j, rfl, hc, hR⟩
    · cases ck
  | .enum e, D, tg, iter, ck => by
    intro E X ρ h H σ τ R C S r A
    rw [ckI] at ck
    rw [evI_enum] at A
    split at ck
    · rename_i n y q
      simp only [Bool.and_eq_true] at ck
      obtain ⟨⟨⟨⟨c0, c1⟩, c2⟩, c3⟩, c4⟩ := ck
      obtain ⟨p, ps, rfl⟩ := asCallN_eq q
      have := of_decide_eq_true c1
      subst this
      obtain ⟨g1, g2, g3, g4⟩ := C.blt c2
      obtain ⟨es, k, tp, rfl⟩ := isTupE_eq c0
      refine PI.to (pi_enum g1 g2 paW (star_cons c3 [] X.env)) (PA.to (pa_cons peW pa_nil (star_cons c3 [] X.env)) (sE e D y c4 C S r (Ans.imp (Ans.bind A) fun ρ1 h1 H1 w ⟨N1, S1, A1⟩ v rv => ?_)))
      split at A1
      · rename_i pl hpl
        obtain ⟨a, ys, rfl, h2, h3⟩ := planL_ls S1 rv hpl
        exact ⟨a, ys, rfl, by rw [C.K]; exact h2, by rw [C.K]; exact A1.now S1 _ (wk_enum h3)⟩
      · exact A1.elim
    · cases ck
  | .zip a b, D, tg, iter, ck => by
    intro E X ρ h H σ τ R C S r A
    rw [ckI] at ck
    rw [evI_zip] at A
    split at ck
    · rename_i n y z q
      simp only [Bool.and_eq_true] at ck
      obtain ⟨⟨⟨⟨⟨⟨c0, c1⟩, c2⟩, c3⟩, c4⟩, c5⟩, c6⟩ := ck
      obtain ⟨p, ps, rfl⟩ := asCallN_eq q
      have := of_decide_eq_true c1
      subst this
      obtain ⟨g1, g2, g3, g4⟩ := C.blt c2
      obtain ⟨es, k, tp, rfl⟩ := isTupE_eq c0
      refine PI.to (pi_zip g1 g2 paW (star_cons c3 _ X.env) (star_any ps X.env (es := [z]) (by simp [c4]))) (PA.to (pa_cons peW (pa_cons peW pa_nil (star_cons c4 [] X.env)) (star_cons c3 _ X.env)) (sE a D y c5 C S r (Ans.imp (Ans.bind A) fun ρ1 h1 H1 w ⟨N1, S1, A1⟩ v rv => ?_)))
      refine sE b D z c6 C S1 (r.ext N1.ext) (Ans.imp (Ans.bind A1) fun ρ2 h2 H2 w2 ⟨N2, S2, A2⟩ u ru => ?_)
      split at A2
      · rename_i pl ql hpl hql
        obtain ⟨a1, ys, rfl, k2, k3⟩ := planL_ls S2 (RV.ext N2.ext _ _ rv) hpl
        obtain ⟨a2, zs, rfl, m2, m3⟩ := planL_ls S2 ru hql
        exact ⟨a1, a2, ys, zs, rfl, by rw [C.K]; exact k2, by rw [C.K]; exact m2, by rw [C.K]; exact A2.now S2 _ (wk_zip k3 m3)⟩
      · exact A2.elim
    · cases ck
end
end
end Mn
end
section
set_option Elab.async false
set_option linter.all false
set_option maxRecDepth 100000
set_option maxHeartbeats 8000000
namespace Mn
open PySem PySem.Spec PyProof.Rows L2
section
variable {G : Env} {ρ ρ1 ρ2 : Nat → Addr} {h h1 h2 : Hm} {H H1 H2 : Hp}
structure Wn where
  nx : (Nat → Addr) → Hm → Hp → List (Option W) → Prop
  rt : VK
def AnsF (G : Env) (ρ : Nat → Addr) (h : Hm) (H : Hp) (r : F) (P : Wn) (E : XK) : Prop := match r with
  | .st => False
  | .nx σ h' => ∀ ρ' H', Nx ρ h H ρ' h' H' → Sim G ρ' h' H' → P.nx ρ' h' H' σ
  | .rt w h' => ∀ ρ' H', Nx ρ h H ρ' h' H' → Sim G ρ' h' H' → ∀ v, RV G ρ' h'.n H' w v → P.rt v H'
  | .ex c fs σ h' => ∀ ρ' H' d, Nx ρ h H ρ' h' H' → Sim G ρ' h' H' → RX G ρ' h'.n H' fs d → E (.ref (G.ca c)) d H'
theorem AnsF.from {r : F} {P : Wn} {E : XK} (A : AnsF G ρ h H r P E) (N : Nx ρ h H ρ1 h1 H1) : AnsF G ρ1 h1 H1 r P E := by
  cases r with
  | st => exact A
  | nx σ h2 => exact fun ρ2 H2 N2 S2 => A ρ2 H2 (N.trans N2) S2
  | rt w h2 => exact fun ρ2 H2 N2 S2 => A ρ2 H2 (N.trans N2) S2
  | ex c fs σ h2 => exact fun ρ2 H2 d N2 S2 x2 => A ρ2 H2 d (N.trans N2) S2 x2
theorem AnsF.fl {α : Type} {r : R α} {σ : List (Option W)} {f : α → Hm → F} {P : Wn} {E : XK} (A : AnsF G ρ h H (r.fl σ f) P E) :
    Ans G ρ h H r (fun ρ1 h1 H1 x => Nx ρ h H ρ1 h1 H1 ∧ Sim G ρ1 h1 H1 ∧ AnsF G ρ1 h1 H1 (f x h1) P E) E := by
  cases r with
  | st => exact A
  | ok x h1 =>
    intro ρ1 H1 N1 S1
    exact ⟨N1, S1, AnsF.from (show AnsF G ρ h H (f x h1) P E from A) N1⟩
  | ex c fs h1 => exact A
theorem AnsF.seq {r : F} {f : List (Option W) → Hm → F} {P : Wn} {E : XK} (A : AnsF G ρ h H (r.seq f) P E) :
    AnsF G ρ h H r ⟨fun ρ1 h1 H1 σ => Nx ρ h H ρ1 h1 H1 ∧ Sim G ρ1 h1 H1 ∧ AnsF G ρ1 h1 H1 (f σ h1) P E, P.rt⟩ E := by
  cases r with
  | st => exact A
  | nx σ h1 =>
    intro ρ1 H1 N1 S1
    exact ⟨N1, S1, AnsF.from (show AnsF G ρ h H (f σ h1) P E from A) N1⟩
  | rt w h1 => exact A
  | ex c fs σ h1 => exact A
theorem AnsF.imp {r : F} {P P' : Wn} {E : XK} (A : AnsF G ρ h H r P E) (k : ∀ ρ1 h1 H1 σ, P.nx ρ1 h1 H1 σ → P'.nx ρ1 h1 H1 σ) (k2 : ∀ v H, P.rt v H → P'.rt v H) : AnsF G ρ h H r P' E := by
  cases r with
  | st => exact A
  | nx σ h1 => exact fun ρ1 H1 N1 S1 => k _ _ _ _ (A ρ1 H1 N1 S1)
  | rt w h1 => exact fun ρ1 H1 N1 S1 v rv => k2 _ _ (A ρ1 H1 N1 S1 v rv)
  | ex c fs σ h1 => exact A
end
section
variable {X : Cx} {D : Ends} {τ : L2.St} {H : Hp}
def wS (X : Cx) (st : Stmt) : TS := fun D σ H => ∀ pins s, Inv X pins σ H s → wpAny (model X.prog X.w) X.A (exec st X.env) (SP X pins D) X.xe s
theorem psW {st : Stmt} : PS X st (wS X st) := ⟨fun pins s _ _ _ I h => h pins s I⟩
theorem PS.to {st : Stmt} {t : TS} (p : PS X st t) (h : t D τ H) : wS X st D τ H := fun pins s I => p.run pins s τ H D I h
def wSs (X : Cx) (st : List Stmt) : TS := fun D σ H => ∀ pins s, Inv X pins σ H s → wpAny (model X.prog X.w) X.A (execs st X.env) (SP X pins D) X.xe s
theorem pssW {st : List Stmt} : PSs X st (wSs X st) := ⟨fun pins s _ _ _ I h => h pins s I⟩
theorem PSs.to {st : List Stmt} {t : TS} (p : PSs X st t) (h : t D τ H) : wSs X st D τ H := fun pins s I => p.run pins s τ H D I h
def wSet (X : Cx) : TSet := fun x y v H Q => ∀ pins s σ u iu vu, Inv X pins σ H s → RelV x u → RelV y iu → RelV v vu → wpAny (model X.prog X.w) X.A (setItem u iu vu) (fun _ s' => ∃ H', Inv X pins σ H' s' ∧ Q H') X.xe s
theorem wS_item {o i value : Expr} {pos pos' : Pos} (hs : swapsWith value (some (.Subscript o i pos')) pos.line X.env = pure false)
    (hv : wE X value τ H fun v H1 => wE X o τ H1 fun x H2 => wE X i τ H2 fun y H3 => wSet X x y v H3 fun H4 => D.nx τ H4) : wS X (.Assign [.Subscript o i pos'] value pos) D τ H := fun pins s I => by
  refine wpAny_Assign_Subscript (thn (hv pins s I) fun r s1 ⟨v, H1, I1, rv, q1⟩ => thn (q1 pins s1 I1) fun u s2 ⟨x, H2, I2, rx, q2⟩ => thn (q2 pins s2 I2) fun iv s3 ⟨y, H3, I3, ry, q3⟩ => ?_) hs
  exact thn (q3 pins s3 τ u iv r I3 rx ry rv) fun _ s4 ⟨H4, I4, q4⟩ => ⟨τ, H4, I4, q4⟩
end
end Mn
end
section
set_option Elab.async false
set_option linter.all false
set_option maxRecDepth 100000
set_option maxHeartbeats 8000000
namespace Mn
open PySem PySem.Spec PyProof.Rows L2
section
variable {G : Env} {ρ : Nat → Addr} {h : Hm} {H : Hp} {X : Cx} {E : XK} {Q : Hp → Prop}
theorem sett_ok (hK : X.K = G.K) (hu : X.A.units + 70 < cLine) (S : Sim G ρ h H) {d k v : W} {x y z : V} (rx : RV G ρ h.n H d x) (ry : RV G ρ h.n H k y) (rz : RV G ρ h.n H v z) (A : Ans G ρ h H (sett d k v h) (fun _ _ H' _ => Q H') E) : wSet X x y z H Q := by
  have A' : Ans G ρ h H (sett d k v h) (PQ G fun _ H' => Q H') E := Ans.imp A fun _ _ _ _ q _ _ => q
  cases d with
  | ref a =>
    obtain ⟨ha, rfl⟩ := rx.ref
    cases q : h.g a with
    | none => simp [sett, q] at A'; exact A'.elim
    | some o =>
      cases o with
      | lst xs =>
        obtain ⟨ys, h1, h2⟩ := S.lst ha q
        cases k with
        | int i =>
          simp only [sett, q] at A'
          split at A'
          · rename_i j hj
            obtain ⟨_, q2⟩ := A'.setL S ha (S.nlk (by rw [q]; rfl)) (h2.set rz j) (v := .non) rfl
            rw [ry.int]
            intro pins s σ u iu vu I ru riu rvu
            refine set_list pins s σ H (.ref (ρ a)) (.int i) z u iu vu Q I ru riu rvu ⟨_, ys, i, j, rfl, rfl, h1, ?_, q2⟩
            rw [← h2.length, ← ixn_ok]
            exact hj
          · exact A'.elim
        | _ => simp [sett, q] at A'; exact A'.elim
      | dK kvs =>
        obtain ⟨ys, _, h2, h3⟩ := S.dK ha q
        simp only [sett, q] at A'
        split at A'
        · rename_i j hj
          split at A'
          · rename_i hl
            obtain ⟨hn, q2⟩ := A'.setDK S ha (h2.put j rz) (v := .non) rfl
            intro pins s σ u iu vu I ru riu rvu
            obtain rfl : u = Value.ref _ := ru
            refine d_setItem (by omega) I (.inl ⟨ys, j, h3 hn, keyOf_ok hj ry, ?_, rfl⟩) riu rvu fun s4 I4 => ⟨_, I4, q2⟩
            rw [← h2.length, ← line_eq]
            exact hl
          · exact A'.elim
        · exact A'.elim
      | dT kvs =>
        obtain ⟨ys, _, h2, h3⟩ := S.dT ha q
        cases k with
        | tup ks =>
          simp only [sett, q] at A'
          split at A'
          · rename_i j hj
            split at A'
            · rename_i hl
              obtain ⟨hn, q2⟩ := A'.setDT S ha (h2.put j rz) (v := .non) rfl
              obtain ⟨t, us, rfl, h4, h5⟩ := ry.tup
              rw [keysOf_ok hj h5] at h4
              intro pins s σ u iu vu I ru riu rvu
              obtain rfl : u = Value.ref _ := ru
              refine d_setItem (by omega) I (.inr ⟨ys, j, t, h3 hn, rfl, h4, ?_, rfl⟩) riu rvu fun s4 I4 => ⟨_, I4, q2⟩
              rw [← h2.length, ← line_eq]
              exact hl
            · exact A'.elim
          · exact A'.elim
        | _ => simp [sett, q] at A'; exact A'.elim
      | ins c fs => simp [sett, q] at A'; exact A'.elim
  | _ => exact (show False from A').elim
end
end Mn
end
section
set_option Elab.async false
set_option linter.all false
set_option maxRecDepth 100000
set_option maxHeartbeats 8000000
namespace Mn
open PySem PySem.Spec PyProof.Rows L2
section
variable {G : Env} {E : XK} {D : Ends}
abbrev WD (G : Env) (D : Ends) : Wn := ⟨fun ρ h H σ => ∀ τ, RS G ρ h.n H σ τ → D.nx τ H, D.rt⟩
theorem for_loop {J : L2.It} {p : Plan} {f : W → List (Option W) → Hm → F} {ρ1 : Nat → Addr} {h1 : Hm} {H1 : Hp} {σ : List (Option W)} {τ : L2.St} {g : TG} {tb : TS}
    (S1 : Sim G ρ1 h1 H1) (r1 : RS G ρ1 h1.n H1 σ τ) (wk : Wk G J p ρ1 h1 H1)
    (body : ∀ ρ2 h2 H2 w x σ2 τ2 (N : L2.St → Hp → Prop), Sim G ρ2 h2 H2 → RS G ρ2 h2.n H2 σ2 τ2 → RV G ρ2 h2.n H2 w x → AnsF G ρ2 h2 H2 (f w σ2 h2) ⟨fun ρ3 h3 H3 σ3 => ∀ τ3, RS G ρ3 h3.n H3 σ3 τ3 → N τ3 H3, D.rt⟩ E →
      g x τ2 H2 fun τ3 H3 => tb { D with nx := N, ct := N, bk := D.nx } τ3 H3)
    (A : AnsF G ρ1 h1 H1 (forL p.gd f p.xs σ h1) (WD G D) E) :
    ∃ W : Nat → Nat → L2.St → Hp → Prop, (∃ m, W 0 m τ H1) ∧ ∀ i m σ H, W i m σ H →
      (J.stop i H ∧ D.nx σ H) ∨ (J.go i H ∧ ∃ N : L2.St → Hp → Prop, (∀ σ' H', N σ' H' → ∃ m', m' < m ∧ W (i + 1) m' σ' H') ∧ ∀ x H', J.yld i H x H' → g x σ H' fun σ2 H2 => tb { D with nx := N, ct := N, bk := D.nx } σ2 H2) := by
  refine ⟨fun i m τ H => ∃ ρ2 h2 σ2, Nx ρ1 h1 H1 ρ2 h2 H ∧ Sim G ρ2 h2 H ∧ RS G ρ2 h2.n H σ2 τ ∧ i ≤ p.xs.length ∧ m = p.xs.length - i ∧ AnsF G ρ1 h1 H1 (forL p.gd f (p.xs.drop i) σ2 h2) (WD G D) E, ⟨_, ρ1, h1, σ, Nx.refl, S1, r1, Nat.zero_le _, rfl, A⟩, ?_⟩
  rintro i m τ H ⟨ρ2, h2, σ2, N, S, r, hi, rfl, A2⟩
  by_cases hlt : i < p.xs.length
  · have ed : p.xs.drop i = p.xs[i] :: p.xs.drop (i + 1) := (List.drop_eq_getElem_cons hlt)
    rw [ed, forL] at A2
    split at A2
    · rename_i hst
      obtain ⟨_, wk2⟩ := wk ρ2 h2 H i N S hst
      obtain ⟨go, wk3⟩ := wk2 p.xs[i] (List.getElem?_eq_getElem hlt)
      refine .inr ⟨go, fun τ' H' => ∃ ρ3 h3 σ3, Nx ρ1 h1 H1 ρ3 h3 H' ∧ Sim G ρ3 h3 H' ∧ RS G ρ3 h3.n H' σ3 τ' ∧ AnsF G ρ1 h1 H1 (forL p.gd f (p.xs.drop (i + 1)) σ3 h3) (WD G D) E, ?_, ?_⟩
      · rintro τ' H' ⟨ρ3, h3, σ3, a1, a2, a3, a4⟩
        exact ⟨p.xs.length - (i + 1), by omega, ρ3, h3, σ3, a1, a2, a3, hlt, rfl, a4⟩
      · intro x H' hy
        obtain ⟨N3, S3, rx⟩ := wk3 x H' hy
        refine body ρ2 h2 H' p.xs[i] x σ2 τ _ S3 (r.ext N3.ext) rx ?_
        cases q : f p.xs[i] σ2 h2 with
        | st => rw [q] at A2; exact A2
        | nx σ3 h3 =>
          rw [q] at A2
          exact fun ρ3 H3 N4 S4 τ3 r3 => ⟨ρ3, h3, σ3, (N.trans N3).trans N4, S4, r3, A2⟩
        | rt w h3 =>
          rw [q] at A2
          exact fun ρ3 H3 N4 S4 v rv => A2 ρ3 H3 ((N.trans N3).trans N4) S4 v rv
        | ex c fs σ3 h3 =>
          rw [q] at A2
          exact fun ρ3 H3 d N4 S4 rd => A2 ρ3 H3 d ((N.trans N3).trans N4) S4 rd
    · exact A2.elim
  · have ed : p.xs.drop i = [] := List.drop_eq_nil_of_le (by omega)
    rw [ed, forL] at A2
    split at A2
    · rename_i hst
      obtain ⟨wk2, _⟩ := wk ρ2 h2 H i N S hst
      exact .inl ⟨wk2 (List.getElem?_eq_none_iff.mpr (by omega)), A2 ρ2 H N S τ r⟩
    · exact A2.elim
theorem while_loop {c : List (Option W) → Hm → R Bool} {b : List (Option W) → Hm → F} {tc : TT} {tb : TS} {ρ1 : Nat → Addr} {h1 : Hm} {H1 : Hp} {σ : List (Option W)} {τ : L2.St} {n : Nat}
    (S1 : Sim G ρ1 h1 H1) (r1 : RS G ρ1 h1.n H1 σ τ)
    (test : ∀ ρ2 h2 H2 σ2 τ2 (Qb : Bool → Hp → Prop), Sim G ρ2 h2 H2 → RS G ρ2 h2.n H2 σ2 τ2 → Ans G ρ2 h2 H2 (c σ2 h2) (fun _ _ H' t => Qb t H') E → tc τ2 H2 Qb)
    (body : ∀ ρ2 h2 H2 σ2 τ2 (N : L2.St → Hp → Prop), Sim G ρ2 h2 H2 → RS G ρ2 h2.n H2 σ2 τ2 → AnsF G ρ2 h2 H2 (b σ2 h2) ⟨fun ρ3 h3 H3 σ3 => ∀ τ3, RS G ρ3 h3.n H3 σ3 τ3 → N τ3 H3, D.rt⟩ E → tb { D with nx := N, ct := N, bk := D.nx } τ2 H2)
    (A : AnsF G ρ1 h1 H1 (whileL c b n σ h1) (WD G D) E) : tWhile tc tb D τ H1 := by
  refine ⟨fun m τ H => ∃ ρ2 h2 σ2, Nx ρ1 h1 H1 ρ2 h2 H ∧ Sim G ρ2 h2 H ∧ RS G ρ2 h2.n H σ2 τ ∧ AnsF G ρ1 h1 H1 (whileL c b m σ2 h2) (WD G D) E, ⟨n, ρ1, h1, σ, Nx.refl, S1, r1, A⟩, ?_⟩
  rintro m τ H ⟨ρ2, h2, σ2, N, S, r, A2⟩
  cases m with
  | zero => exact A2.elim
  | succ m =>
    rw [whileL] at A2
    refine test ρ2 h2 H σ2 τ _ S r ?_
    cases q : c σ2 h2 with
    | st => rw [q] at A2; exact A2
    | ex cc fs h3 =>
      rw [q] at A2
      exact fun ρ3 H3 d N4 S4 rd => A2 ρ3 H3 d (N.trans N4) S4 rd
    | ok t h3 =>
      rw [q] at A2
      intro ρ3 H3 N4 S4
      cases t with
      | false =>
        rw [if_neg Bool.false_ne_true]
        exact A2 ρ3 H3 (N.trans N4) S4 τ (r.ext N4.ext)
      | true =>
        rw [if_pos rfl]
        have A3 : AnsF G ρ1 h1 H1 ((b σ2 h3).seq fun σ h => whileL c b m σ h) (WD G D) E := A2
        refine ⟨fun τ' H' => ∃ ρ4 h4 σ4, Nx ρ1 h1 H1 ρ4 h4 H' ∧ Sim G ρ4 h4 H' ∧ RS G ρ4 h4.n H' σ4 τ' ∧ AnsF G ρ1 h1 H1 (whileL c b m σ4 h4) (WD G D) E, fun τ' H' hN => ⟨m, Nat.lt_succ_self _, hN⟩, body ρ3 h3 H3 σ2 τ _ S4 (r.ext N4.ext) ?_⟩
        cases q2 : b σ2 h3 with
        | st => rw [q2] at A3; exact A3
        | nx σ4 h4 =>
          rw [q2] at A3
          exact fun ρ4 H4 N5 S5 τ3 r3 => ⟨ρ4, h4, σ4, (N.trans N4).trans N5, S5, r3, A3⟩
        | rt w h4 =>
          rw [q2] at A3
          exact fun ρ4 H4 N5 S5 v rv => A3 ρ4 H4 ((N.trans N4).trans N5) S5 v rv
        | ex cc fs σ4 h4 =>
          rw [q2] at A3
          exact fun ρ4 H4 d N5 S5 rd => A3 ρ4 H4 d ((N.trans N4).trans N5) S5 rd
end
end Mn
end
section
set_option Elab.async false
set_option linter.all false
set_option maxRecDepth 100000
set_option maxHeartbeats 8000000
namespace Mn
open PySem PySem.Spec PyProof.Rows L2
def asExprS : Stmt → Option Expr
  | .Expr e _ => some e
  | _ => none
theorem asExprS_eq {s : Stmt} {e : Expr} (h : asExprS s = some e) : ∃ p, s = .Expr e p := by
  unfold asExprS at h
  split at h <;> first | (cases h; exact ⟨_, rfl⟩) | cases h
def asAsg : Stmt → Option (Expr × Expr × Pos)
  | .Assign [t] v p => some (t, v, p)
  | _ => none
theorem asAsg_eq {s : Stmt} {t v : Expr} {p : Pos} (h : asAsg s = some (t, v, p)) : s = .Assign [t] v p := by
  unfold asAsg at h
  split at h <;> first | (cases h; rfl) | cases h
def asRet : Stmt → Option (Option Expr)
  | .Return v _ => some v
  | _ => none
theorem asRet_eq {s : Stmt} {v : Option Expr} (h : asRet s = some v) : ∃ p, s = .Return v p := by
  unfold asRet at h
  split at h <;> first | (cases h; exact ⟨_, rfl⟩) | cases h
def asIf : Stmt → Option (Expr × List Stmt × List Stmt)
  | .If c a b _ => some (c, a, b)
  | _ => none
theorem asIf_eq {s : Stmt} {c : Expr} {a b : List Stmt} (h : asIf s = some (c, a, b)) : ∃ p, s = .If c a b p := by
  unfold asIf at h
  split at h <;> first | (cases h; exact ⟨_, rfl⟩) | cases h
def asWhl : Stmt → Option (Expr × List Stmt)
  | .While c a [] _ => some (c, a)
  | _ => none
theorem asWhl_eq {s : Stmt} {c : Expr} {a : List Stmt} (h : asWhl s = some (c, a)) : ∃ p, s = .While c a [] p := by
  unfold asWhl at h
  split at h <;> first | (cases h; exact ⟨_, rfl⟩) | cases h
def asFor : Stmt → Option (Expr × Expr × List Stmt)
  | .For t i b [] _ => some (t, i, b)
  | _ => none
theorem asFor_eq {s : Stmt} {t i : Expr} {b : List Stmt} (h : asFor s = some (t, i, b)) : ∃ p, s = .For t i b [] p := by
  unfold asFor at h
  split at h <;> first | (cases h; exact ⟨_, rfl⟩) | cases h
def asRaise : Stmt → Option Expr
  | .Raise (some e) none _ => some e
  | _ => none
theorem asRaise_eq {s : Stmt} {e : Expr} (h : asRaise s = some e) : ∃ p, s = .Raise (some e) none p := by
  unfold asRaise at h
  split at h <;> first | (cases h; exact ⟨_, rfl⟩) | cases h
def asPass : Stmt → Bool
  | .Pass _ => true
  | _ => false
theorem asPass_eq {s : Stmt} (h : asPass s = true) : ∃ p, s = .Pass p := by
  unfold asPass at h
  split at h <;> first | exact ⟨_, rfl⟩ | cases h
def noSwap : Expr → Bool
  | .ListComp _ _ _ _ => false
  | .SetComp _ _ _ _ => false
  | .DictComp _ _ _ _ _ => false
  | _ => true
theorem noSwap_ok {e : Expr} (h : noSwap e = true) (t : Option Expr) (l : Nat) (env : PySem.Env) : swapsWith e t l env = pure false := by
  cases e <;> first | rfl | cases h
def asTry : Stmt → Option (List Stmt × Str)
  | .Try body [.ExceptHandler (some (.Name x _)) none (_ :: _) _] [] [] _ => some (body, x)
  | _ => none
theorem asTry_eq {s : Stmt} {b : List Stmt} {x : Str} (h : asTry s = some (b, x)) : ∃ np b₀ suite pos' pos, s = .Try b [.ExceptHandler (some (.Name x np)) none (b₀ :: suite) pos'] [] [] pos := by
  unfold asTry at h
  split at h <;> first | (cases h; exact ⟨_, _, _, _, _, rfl⟩) | cases h
def isNo : Ex → Bool
  | .no => true
  | _ => false
theorem isNo_eq {e : Ex} (h : isNo e = true) : e = .no := by
  cases e <;> first | rfl | cases h
def swC (D : Dt) (tg v : Expr) : Bool := match v, tg with
  | .ListComp _ _ sc p, .Name x py => decide (kd D x = some .local) && (py.line == p.line) && !(sc.names.any fun (n, k) => n == x && (k == .local || k == .cell))
  | _, _ => false
def isLC : Expr → Bool
  | .ListComp _ _ _ _ => true
  | _ => false
section
variable {M : Md} {d : Nat} {D : Dt} {E : XK} {X : Cx}
theorem Ctx.kind_of (C : Ctx M d D E X) {x : Str} (h : locK (kd D x) = true) : X.env.kindOf x = kd D x := by
  have h0 : X.env.kindOf x = X.env.scope.names.lookup x := rfl
  unfold locK at h
  split at h <;> first
    | cases h; done
    | (rename_i q
       rcases C.sc x _ q with z | ⟨z, z2⟩
       · rw [h0, z, q]
       · cases z)
theorem swC_no (C : Ctx M d D E X) {t : Tg} {tg v : Expr} (ht : ckT D t tg = true) (hv : (noSwap v || isLC v) = true) (h : swC D tg v = false) (l : Nat) : swapsWith v (some tg) l X.env = pure false := by
  rw [Bool.or_eq_true] at hv
  rcases hv with hv | hv
  · exact noSwap_ok hv _ _ _
  · cases v with
    | ListComp elt gs sc p =>
      cases t with
      | one i =>
        have ht' : ckN D i tg = true := ht
        unfold ckN at ht'
        split at ht'
        · rename_i x q
          obtain ⟨py, rfl⟩ := asName_eq q
          rw [Bool.and_eq_true] at ht'
          have hk := C.kind_of ht'.2
          have h' : (decide (kd D x = some .local) && (py.line == p.line) && !(sc.names.any fun (n, k) => n == x && (k == .local || k == .cell))) = false := h
          show (pure (X.env.blockKind == .function && X.env.kindOf x == some .local && (py.line == p.line) && !(sc.names.any fun (n, k) => n == x && (k == .local || k == .cell))) : Sem Bool) = pure false
          rw [hk]
          congr 1
          have e2 : (kd D x == some NameKind.local) = decide (kd D x = some .local) := by
            by_cases e : kd D x = some .local
            · rw [e]; rfl
            · rw [decide_eq_false e]
              have ht2 := ht'.2
              unfold locK at ht2
              split at ht2 <;> first
                | cases ht2; done
                | (rename_i q2; exact absurd q2 e)
                | (rename_i q2; rw [q2]; rfl)
          rw [e2, Bool.and_assoc, Bool.and_assoc, ← Bool.and_assoc (decide _), h', Bool.and_false]
        · cases ht'
      | row is =>
        unfold ckT at ht
        dsimp only at ht
        split at ht
        · rename_i es q
          obtain ⟨k, p', rfl⟩ := asTup_eq q
          rfl
        · cases ht
    | _ => cases hv
theorem swC_yes (C : Ctx M d D E X) {tg v : Expr} (h : swC D tg v = true) : ∃ elt gs sc p x py, v = .ListComp elt gs sc p ∧ tg = .Name x py ∧ X.env.scope.names.lookup x = some .local ∧ ∀ l, swapsWith v (some tg) l X.env = pure true := by
  unfold swC at h
  split at h
  · rename_i elt gs sc p x py
    simp only [Bool.and_eq_true] at h
    obtain ⟨⟨h1, h2⟩, h3⟩ := h
    have k := of_decide_eq_true h1
    have hl : X.env.scope.names.lookup x = some .local := by
      rcases C.sc x _ k with z | ⟨z, _⟩
      · exact z
      · cases z
    refine ⟨elt, gs, sc, p, x, py, rfl, rfl, hl, fun l => sw_true C.kind hl h2 ?_⟩
    simpa using h3
  · cases h
end
theorem comp_inv {B : Tb} {e : Ex} {D : Dt} {elt : Expr} {gs : List Comprehension} {sc : Scope} {p : Pos} (h : ckE B e D (.ListComp elt gs sc p) = true) : e = .no ∨ ∃ e0 t it c, e = .comp e0 t it c := by
  cases e with
  | comp e0 t it c => exact .inr ⟨e0, t, it, c, rfl⟩
  | con w =>
    rw [ckE] at h
    cases h
  | disp es => rw [ckE] at h; cases h
  | dict t => rw [ckE] at h; cases h
  | no => exact .inl rfl
  | _ => rw [ckE] at h; cases h
theorem lock_fl {l : Option Nat} {h : Hm} {f : Hm → R W} {σ : List (Option W)} {k : W → List (Option W)} : (withLock .st R.relk l h f).fl σ (fun w h => .nx (k w) h) = withLock .st F.relk l h fun h => (f h).fl σ fun w h => .nx (k w) h := by
  cases l with
  | none => rfl
  | some a =>
    unfold withLock
    dsimp only
    split
    · rfl
    · split
      · cases f (h.lock a) <;> rfl
      · rfl
def isStrC : Expr → Bool
  | .Constant (.str _) _ _ => true
  | _ => false
theorem isStrC_eq {e : Expr} (h : isStrC e = true) : ∃ z k p, e = .Constant (.str z) k p := by
  unfold isStrC at h
  split at h
  · exact ⟨_, _, _, rfl⟩
  · cases h
end Mn
end
section
set_option Elab.async false
set_option linter.all false
set_option maxRecDepth 100000
set_option maxHeartbeats 8000000
namespace Mn
open PySem PySem.Spec PyProof.Rows L2
def isNoS : Sm → Bool
  | .expr .no => true
  | _ => false
theorem isNoS_eq {s : Sm} (h : isNoS s = true) : s = .expr .no := by
  unfold isNoS at h
  split at h
  · rfl
  · cases h
section
variable (B : Tb)
mutual
def ckS : Sm → Dt → Stmt → Bool
  | .expr e, D, s => isNo e || (match asExprS s with
    | some x => noSwap x && ckE B e D x
    | none => false)
  | .set t e, D, s => (match asAsg s with
    | some (tg, v, _) => ckT D t tg && ckE B e D v && (noSwap v || isLC v) && !(isTupE tg && isTupE v)
    | none => false)
  | .fld o f e, D, s => (match asAsg s with
    | some (tg, v, _) => (match asAttr tg with
      | some (x, m) => decide (B.flds[f]? = some m) && ckE B o D x && ckE B e D v
      | none => false)
    | none => false)
  | .item o i e, D, s => (match asAsg s with
    | some (tg, v, _) => (match asSub tg with
      | some (x, y) => ckE B o D x && ckE B i D y && ckE B e D v
      | none => false)
    | none => false)
  | .ret e, D, s => (match asRet s with
    | some (some x) => ckE B e D x
    | some none => isNon e
    | none => false)
  | .ite c a b, D, s => (match asIf s with
    | some (x, y, z) => ckE B c D x && ckSs a D y && ckSs b D z
    | none => false)
  | .whl c b, D, s => (match asWhl s with
    | some (x, y) => ckE B c D x && ckSs b D y
    | none => false)
  | .for t it b, D, s => (match asFor s with
    | some (tg, iter, y) => ckT D t tg && ckI B it D (isTupE tg) iter && noSet iter && ckSs b D y
    | none => false)
  | .raise c, D, s => (match asRaise s with
    | some e => (match asCallN e with
      | some (x, [y]) => glbK (kd D x) && nameOk x && decide (B.excs.lookup x = some c) && isStrC y
      | _ => false)
    | none => false)
  | .pass, _, s => asPass s
  | .tri b, D, s => (match asTry s with
    | some (y, x) => glbK (kd D x) && nameOk x && decide (x ∈ B.nams) && ckSs b D y
    | none => false)
def ckSs : Sms → Dt → List Stmt → Bool
  | .nil, _, [] => true
  | .cons s r, D, x :: xs => isNoS s || (ckS s D x && ckSs r D xs)
  | _, _, _ => false
end
end
theorem swap_attr {v x : Expr} {f : Str} {p : Pos} (l : Nat) (env : PySem.Env) : swapsWith v (some (.Attribute x f p)) l env = pure false := by
  cases v <;> rfl
theorem swap_sub {v x y : Expr} {p : Pos} (l : Nat) (env : PySem.Env) : swapsWith v (some (.Subscript x y p)) l env = pure false := by
  cases v <;> rfl
structure Own (X : Cx) : Prop where
  own : PassesOwn (model X.prog X.w) X.A X.env X.xe
  hs : X.stack = X.env :: X.outer
  hf : X.env.frame = some X.env.locals
theorem AnsF.noex {G : Env} {ρ : Nat → Addr} {h : Hm} {H : Hp} {r : F} {P : Wn} {E E' : XK} (A : AnsF G ρ h H r.noex P E) : AnsF G ρ h H r P E' := by
  cases r with
  | ex c fs σ h1 => exact A.elim
  | _ => exact A
theorem iC_ok {M : Md} {d : Nat} {D : Dt} {sc : Scope} {c : Ex} {cond : Option Expr} (h : (match (generalizing := false) cond with
    | none => isYes c
    | some y => ckE M.tb c ⟨D.N, sc⟩ y) = true) (ih : ∀ y, ckE M.tb c ⟨D.N, sc⟩ y = true → ST M d c ⟨D.N, sc⟩ y) : (match (generalizing := false) cond with
    | none => isYes c = true
    | some y => ST M d c ⟨D.N, sc⟩ y) := by
  cases cond with
  | none => exact h
  | some y => exact ih y h
def SS (M : Md) (d : Nat) (m : Sm) (D : Dt) (st : Stmt) : Prop := ∀ ⦃E : XK⦄ ⦃X : Cx⦄ ⦃ρ : Nat → Addr⦄ ⦃h : Hm⦄ ⦃H : Hp⦄ ⦃σ : List (Option W)⦄ ⦃τ : L2.St⦄ ⦃De : Ends⦄, Ctx M d D E X → Own X → Sim M.G ρ h H → RS M.G ρ h.n H σ τ →
    AnsF M.G ρ h H (evS (M.cf d) m σ h) (WD M.G De) E → wS X st De τ H
def SSs (M : Md) (d : Nat) (m : Sms) (D : Dt) (st : List Stmt) : Prop := ∀ ⦃E : XK⦄ ⦃X : Cx⦄ ⦃ρ : Nat → Addr⦄ ⦃h : Hm⦄ ⦃H : Hp⦄ ⦃σ : List (Option W)⦄ ⦃τ : L2.St⦄ ⦃De : Ends⦄, Ctx M d D E X → Own X → Sim M.G ρ h H → RS M.G ρ h.n H σ τ →
    AnsF M.G ρ h H (evSs (M.cf d) m σ h) (WD M.G De) E → wSs X st De τ H
theorem lock_wS {G : Env} {ρ : Nat → Addr} {h : Hm} {H : Hp} {σ : List (Option W)} {τ : L2.St} {E : XK} {De : Ends} {X : Cx} {st : Stmt} {l : Option Nat} {f : Hm → F} (S : Sim G ρ h H) (r : RS G ρ h.n H σ τ)
    (core : ∀ (h : Hm) (H : Hp) (De : Ends), Sim G ρ h H → RS G ρ h.n H σ τ → AnsF G ρ h H (f h) (WD G De) E → wS X st De τ H) (A : AnsF G ρ h H (withLock .st F.relk l h f) (WD G De) E) : wS X st De τ H := by
  unfold withLock at A
  split at A
  · exact core h H De S r A
  · rename_i a
    split at A
    · exact core h H De S r A
    · rename_i hl
      split at A
      · rename_i hc
        obtain ⟨u, hu, mu, k⟩ := lock_ok S hc.1 hl hc.2
        refine PS.to (ps_lock psW) ⟨ρ a, u, hu, mu, fun od => ?_⟩
        obtain ⟨ex0, S0, k2⟩ := k od
        refine core (h.lock a) _ _ S0 (r.ext ex0) ?_
        revert A
        cases f (h.lock a) with
        | st => exact id
        | ex c fs σ' h' => exact fun z => z.elim
        | nx σ' h' =>
          intro A ρ' H' N S' τ' r'
          obtain ⟨hf, N2, S2, ex⟩ := k2 ρ' h' H' N S'
          exact ⟨hf, A ρ' _ N2 S2 τ' (r'.ext ex)⟩
        | rt w h' =>
          intro A ρ' H' N S' v rv
          obtain ⟨hf, N2, S2, ex⟩ := k2 ρ' h' H' N S'
          exact ⟨hf, A ρ' _ N2 S2 v (RV.ext ex _ _ rv)⟩
      · exact A.elim
theorem noPair {tg v : Expr} {env : PySem.Env} {D : Dt} {t : Tg} (ht : ckT D t tg = true) (h : (isTupE tg && isTupE v) = false) : swappedStores [tg] v env = pure none ∧ (assignEach [tg] env).map (·.2) = [assign tg env] := by
  cases t with
  | one i =>
    have ht' : ckN D i tg = true := ht
    unfold ckN at ht'
    split at ht'
    · rename_i x q
      obtain ⟨p, rfl⟩ := asName_eq q
      exact ⟨rfl, rfl⟩
    · cases ht'
  | row is =>
    unfold ckT at ht
    dsimp only at ht
    split at ht
    · rename_i es q
      obtain ⟨k, p, rfl⟩ := asTup_eq q
      have hv : isTupE v = false := by
        rw [Bool.and_eq_false_iff] at h
        rcases h with h | h
        · cases h
        · exact h
      refine ⟨?_, rfl⟩
      cases v <;> first | rfl | cases hv
    · cases ht
section
variable {M : Md} {d : Nat}
mutual
theorem sS : ∀ (m : Sm) (D : Dt) (st : Stmt), ckS M.tb m D st = true → SS M d m D st
  | .expr e, D, st, ck => by
    intro E X ρ h H σ τ De C P S r A
    rw [ckS] at ck
    rw [evS] at A
    cases hn : isNo e with
    | true =>
      have := isNo_eq hn
      subst this
      exact (show False from A).elim
    | false =>
    rw [hn, Bool.false_or] at ck
    split at ck
    · rename_i x q
      rw [Bool.and_eq_true] at ck
      obtain ⟨p, rfl⟩ := asExprS_eq q
      refine PS.to (ps_expr peW (noSwap_ok ck.1 _ _ _)) (sE e D x ck.2 C S r (Ans.imp A.fl fun ρ1 h1 H1 w ⟨N1, S1, A1⟩ v rv => ?_))
      exact A1 ρ1 H1 Nx.refl S1 τ (r.ext N1.ext)
    · cases ck
  | .set t e, D, st, ck => by
    intro E X ρ h H σ τ De C P S r A
    rw [ckS] at ck
    rw [evS] at A
    split at ck
    · rename_i tg v ps q
      simp only [Bool.and_eq_true] at ck
      obtain ⟨⟨⟨c1, c2⟩, c3⟩, c4⟩ := ck
      have := asAsg_eq q
      subst this
      cases hsw : swC D tg v with
      | true =>
        obtain ⟨elt, gs, sc, p, x, py, rfl, rfl, hl, hsw'⟩ := swC_yes C hsw
        rcases comp_inv c2 with rfl | ⟨e0, t', it, c, rfl⟩
        · exact (show False from A).elim
        rw [ckE] at c2
        rw [evE_comp] at A
        split at c2
        · rename_i elt' tg' iter cond sc' q2
          simp only [Bool.and_eq_true] at c2
          obtain ⟨⟨⟨⟨⟨k1, k2⟩, k3⟩, k4⟩, k5⟩, k6⟩ := c2
          obtain ⟨p', q3⟩ := asLC_eq q2
          cases q3
          cases t with
          | row is => cases c1
          | one i =>
          have hi : D.N[i]? = some x := by
            have z : ckN D i (.Name x py) = true := c1
            unfold ckN at z
            dsimp only [asName] at z
            rw [Bool.and_eq_true] at z
            exact of_decide_eq_true z.1
          have A' := A
          have eA := @lock_fl (toLock (evL (M.cf d) it σ h)) h (fun h => (evI (M.cf d) it σ h).bind fun p h => (compL p.gd (fun x h => match store t' x σ h with
            | some σ => (evT (M.cf d) c σ h).bind fun b h => match b with
              | true => (evE (M.cf d) e0 σ h).bind fun y h => .ok (some y) h
              | false => .ok none h
            | none => .st) p.xs h).bind fun ys h => newL ys h) σ (fun w => σ.set i (some w))
          have A2 := eA ▸ (show AnsF M.G ρ h H ((withLock Mn.R.st R.relk (toLock (evL (M.cf d) it σ h)) h _).fl σ fun w h => Mn.F.nx (σ.set i (some w)) h) (WD M.G De) E from A)
          refine lock_wS S r (fun h H De S r A => ?_) A2
          have iC := iC_ok (M := M) (d := d) (D := D) (sc := sc) (c := c) (cond := cond) k6 fun y hy => sT c ⟨D.N, sc⟩ y hy
          obtain ⟨tt, te, h1, h2, h3⟩ := comp_tLc (c := c) k1 k2 k3 (sE e0 ⟨D.N, sc⟩ elt k5) iC (sI it D tg' iter k4) C S r (Q := fun v H' => De.nx (τ.set i (some v)) H') (E := E) (Ans.imp A.fl fun ρ1 h1 H1 w ⟨N1, S1, A1⟩ v rv => A1 ρ1 H1 Nx.refl S1 _ ((r.ext N1.ext).set rv i))
          have eo : ((slotsT t').map fun i => (D.N.getD i "", i)).map (·.2) = slotsT t' := by
            rw [List.map_map]
            exact List.map_id _
          refine PS.to (ps_setLc (i := i) (g := gT X.K t') C.calm (by rw [C.N]; exact C.nd) (by rw [C.N]; exact hi) hl (hsw' _) piW (C.blkOk k1) (fun s H A cl fp => pgT (C.block k1 s H A cl fp) k2) h1 h2 (noSet_fold k3 X.env)) ?_
          rw [eo]
          exact h3
        · cases c2
      | false =>
      obtain ⟨n1, n2⟩ := noPair (env := X.env) (v := v) c1 (by revert c4; cases (isTupE tg && isTupE v) <;> simp)
      refine PS.to (ps_asg peW (pgT C c1) (swC_no C c1 c3 hsw _) n1 n2) (sE e D v c2 C S r (Ans.imp A.fl fun ρ1 h1 H1 w ⟨N1, S1, A1⟩ z rz => ?_))
      split at A1
      · rename_i σ2 hs
        obtain ⟨τ2, r2, hg⟩ := Mn.store_ok (K := X.K) C.K S1 (r.ext N1.ext) rz hs
        exact hg _ (A1 ρ1 H1 Nx.refl S1 τ2 r2)
      · exact A1.elim
    · cases ck
  | .fld o f e, D, st, ck => by
    intro E X ρ h H σ τ De C P S r A
    rw [ckS] at ck
    rw [evS] at A
    split at ck
    · rename_i tg v ps q
      have := asAsg_eq q
      subst this
      split at ck
      · rename_i x m q2
        rw [Bool.and_eq_true, Bool.and_eq_true] at ck
        obtain ⟨p2, rfl⟩ := asAttr_eq q2
        have hm : M.G.fn f = m := by
          rw [C.ok.fn, List.getD_eq_getElem?_getD, of_decide_eq_true ck.1.1]
          rfl
        subst hm
        refine PS.to (ps_fld peW peW (swap_attr _ _)) (sE e D v ck.2 C S r (Ans.imp A.fl fun ρ1 h1 H1 w ⟨N1, S1, A1⟩ z rz => ?_))
        refine sE o D x ck.1.2 C S1 (r.ext N1.ext) (Ans.imp A1.fl fun ρ2 h2 H2 w2 ⟨N2, S2, A2⟩ zx rx => ?_)
        split at A2
        · rename_i a _hh
          obtain ⟨ha, rfl⟩ := rx.ref
          split at A2
          · rename_i c fs hga
            split at A2
            · rename_i hc
              obtain ⟨b1, b2, b3⟩ := bad_no (d := d) hc.2.1
              obtain ⟨dx, ys, g1, g2, g3, g4⟩ := S2.ins ha hga
              have hnf : f < M.G.nf := by rw [C.ok.nf]; exact b2
              have rz2 := RV.ext N2.ext _ _ rz
              have ew : Ext ρ2 h2.n H2 ρ2 h2.n (upd H2 (ρ2 a) (.ins (M.G.ca c) dx (L2.putF (M.G.fn f) z ys))) := Ext.write S2 ha
              have hl : a ∉ h2.lk := S2.nlk (by rw [hga]; rfl)
              have g5 := RKV.putF (fun i j hi hj e => C.ok.inj i j (by rw [← C.ok.nf]; exact hi) (by rw [← C.ok.nf]; exact hj) e) hnf rz2 g4 g2
              obtain ⟨k1, k2⟩ := putF_keys f w fs
              refine ⟨_, M.G.ca c, dx, ys, rfl, g1, by rw [C.K]; exact C.ok.cls c b1, by rw [C.K]; exact C.ok.attr c f b3, by rw [← g2.length]; exact hc.2.2, ?_⟩
              refine A2 ρ2 _ (Nx.write S2 ha hc.1 hl) (S2.write ha hl ⟨dx, _, upd_same, RKV.ext ew _ _ g5, k2 g3, fun i hi => ?_⟩) τ (((r.ext N1.ext).ext N2.ext).ext ew)
              rcases k1 i hi with e | e
              · rw [e]; exact hnf
              · exact g4 i e
            · exact A2.elim
          · exact A2.elim
        · exact A2.elim
      · cases ck
    · cases ck
  | .item o i e, D, st, ck => by
    intro E X ρ h H σ τ De C P S r A
    rw [ckS] at ck
    rw [evS] at A
    split at ck
    · rename_i tg v ps q
      have := asAsg_eq q
      subst this
      split at ck
      · rename_i x y q2
        rw [Bool.and_eq_true, Bool.and_eq_true] at ck
        obtain ⟨_, p2, rfl⟩ := asSub_eq q2
        refine wS_item (swap_sub _ _) (sE e D v ck.2 C S r (Ans.imp A.fl fun ρ1 h1 H1 w ⟨N1, S1, A1⟩ z rz => ?_))
        refine sE o D x ck.1.1 C S1 (r.ext N1.ext) (Ans.imp A1.fl fun ρ2 h2 H2 w2 ⟨N2, S2, A2⟩ zx rx => ?_)
        refine sE i D y ck.1.2 C S2 ((r.ext N1.ext).ext N2.ext) (Ans.imp A2.fl fun ρ3 h3 H3 w3 ⟨N3, S3, A3⟩ zy ry => ?_)
        refine sett_ok C.K C.hu S3 (RV.ext N3.ext _ _ rx) ry (RV.ext N3.ext _ _ (RV.ext N2.ext _ _ rz)) (Ans.imp A3.fl fun ρ4 h4 H4 w4 ⟨N4, S4, A4⟩ => ?_)
        exact A4 ρ4 H4 Nx.refl S4 τ ((((r.ext N1.ext).ext N2.ext).ext N3.ext).ext N4.ext)
      · cases ck
    · cases ck
  | .ret e, D, st, ck => by
    intro E X ρ h H σ τ De C P S r A
    rw [ckS] at ck
    rw [evS] at A
    split at ck
    · rename_i x q
      obtain ⟨p, rfl⟩ := asRet_eq q
      refine PS.to (ps_ret peW) (sE e D x ck C S r (Ans.imp A.fl fun ρ1 h1 H1 w ⟨N1, S1, A1⟩ v rv => ?_))
      exact A1 ρ1 H1 Nx.refl S1 v rv
    · rename_i q
      obtain ⟨p, rfl⟩ := asRet_eq q
      have he : e = .con .non := by
        unfold isNon at ck
        split at ck
        · rfl
        · cases ck
      subst he
      have A1 : AnsF M.G ρ h H (.rt .non h) (WD M.G De) E := A
      exact PS.to ps_retN (A1 ρ H Nx.refl S .non rfl)
    · cases ck
  | .ite c a b, D, st, ck => by
    intro E X ρ h H σ τ De C P S r A
    rw [ckS] at ck
    rw [evS] at A
    split at ck
    · rename_i x y z q
      rw [Bool.and_eq_true, Bool.and_eq_true] at ck
      obtain ⟨p, rfl⟩ := asIf_eq q
      refine PS.to (ps_if ptW pssW pssW) (sT c D x ck.1.1 C S r (Ans.imp A.fl fun ρ1 h1 H1 t ⟨N1, S1, A1⟩ => ?_))
      cases t with
      | true =>
        rw [if_pos rfl]
        exact sSs a D y ck.1.2 C P S1 (r.ext N1.ext) A1
      | false =>
        rw [if_neg Bool.false_ne_true]
        exact sSs b D z ck.2 C P S1 (r.ext N1.ext) A1
    · cases ck
  | .whl c b, D, st, ck => by
    intro E X ρ h H σ τ De C P S r A
    rw [ckS] at ck
    rw [evS] at A
    split at ck
    · rename_i x y q
      rw [Bool.and_eq_true] at ck
      obtain ⟨p, rfl⟩ := asWhl_eq q
      exact PS.to (ps_while P.own ptW pssW) (while_loop S r (fun ρ2 h2 H2 σ2 τ2 Qb S2 r2 A2 => sT c D x ck.1 C S2 r2 A2) (fun ρ2 h2 H2 σ2 τ2 N S2 r2 A2 => sSs b D y ck.2 C P S2 r2 A2) A)
    · cases ck
  | .for t it b, D, st, ck => by
    intro E X ρ h H σ τ De C P S r A
    rw [ckS] at ck
    rw [evS] at A
    split at ck
    · rename_i tg iter y q
      simp only [Bool.and_eq_true] at ck
      obtain ⟨⟨⟨c1, c2⟩, c3⟩, c4⟩ := ck
      obtain ⟨p, rfl⟩ := asFor_eq q
      refine lock_wS S r (fun h H De S r A => ?_) A
      refine PS.to (ps_for P.own C.calm piW (pgT C c1) pssW (noSet_fold c3 X.env)) (sI it D tg iter c2 C S r (Ans.imp A.fl fun ρ1 h1 H1 pl ⟨N1, S1, A1⟩ J wk => ?_))
      refine for_loop (g := gT X.K t) (tb := wSs X y) S1 (r.ext N1.ext) wk (fun ρ2 h2 H2 w x σ2 τ2 N S2 r2 rx A2 => ?_) A1
      split at A2
      · rename_i σ3 hs
        obtain ⟨τ3, r3, hg⟩ := Mn.store_ok (K := X.K) C.K S2 r2 rx hs
        exact hg _ (sSs b D y c4 C P S2 r3 A2)
      · exact A2.elim
    · cases ck
  | .raise c, D, st, ck => by
    intro E X ρ h H σ τ De C P S r A
    rw [ckS] at ck
    rw [evS] at A
    split at ck
    · rename_i e q
      split at ck
      · rename_i x y q2
        simp only [Bool.and_eq_true] at ck
        obtain ⟨⟨⟨c1, c2⟩, c3⟩, c4⟩ := ck
        obtain ⟨p, rfl⟩ := asRaise_eq q
        obtain ⟨p1, p2, rfl⟩ := asCallN_eq q2
        obtain ⟨z, k, p3, rfl⟩ := isStrC_eq c4
        obtain ⟨e1, e2, e3, e4, e5⟩ := C.ok.excs x c (of_decide_eq_true c3)
        obtain ⟨g1, g2, g3⟩ := nameOk_ok c2
        refine PS.to (ps_raise C.calm C.tk (pmk_own PySem.F.excBase_ValueError (by rw [C.K]; exact e2) (by rw [C.mg]; exact e1) (by rw [C.K]; exact e3) (raises_own (by rw [C.K]; exact e4) (by rw [C.K]; exact e5)) (C.gl c1) g1)) ?_
        exact A ρ H none Nx.refl S rfl
      · cases ck
    · cases ck
  | .pass, D, st, ck => by
    intro E X ρ h H σ τ De C P S r A
    rw [ckS] at ck
    rw [evS] at A
    obtain ⟨p, rfl⟩ := asPass_eq ck
    exact PS.to ps_pass (A ρ H Nx.refl S τ r)
  | .tri b, D, st, ck => by
    intro E X ρ h H σ τ De C P S r A
    rw [ckS] at ck
    rw [evS] at A
    split at ck
    · rename_i y x q
      simp only [Bool.and_eq_true] at ck
      obtain ⟨⟨⟨c1, c2⟩, c3⟩, c4⟩ := ck
      obtain ⟨np, b₀, suite, pos', pos, rfl⟩ := asTry_eq q
      obtain ⟨cv, hcv⟩ := C.ok.nams x (of_decide_eq_true c3)
      obtain ⟨g1, g2, g3⟩ := nameOk_ok c2
      have A' : AnsF M.G ρ h H (evSs (M.cf d) b σ h) (WD M.G De) (fun _ _ _ => False) := A.noex
      refine PS.to (ps_try_only (tb := fun _ D σ H => ∀ pn xe, PassesOwn (model X.prog X.w) X.A X.env xe → wSs (X.tr pn xe) y D σ H) (ts := fun _ _ _ _ _ _ => False) (Wout := fun _ _ _ _ => False) P.hs P.hf ⟨C.gl c1, g1, .inl (by rw [C.mg]; exact hcv)⟩ takes0 (fun W pn xe _ po => ⟨fun pins s σ H D I hw => hw pn xe po pins s I⟩) (fun a oe cls d pn _ _ => ⟨fun _ _ _ _ _ _ z => z.elim⟩)) ?_
      intro pn xe po
      refine sSs b D y c4 (E := fun _ _ _ => False) (X := X.tr pn xe) ?_ ⟨po, P.hs, P.hf⟩ S r A'
      exact ⟨C.prog, C.w, C.K, C.mg, C.base, C.N, C.nd, C.sc, C.kind, C.calm, C.hu, C.room, takes0, C.fnc, C.fns, C.ok⟩
    · cases ck
theorem sSs : ∀ (m : Sms) (D : Dt) (st : List Stmt), ckSs M.tb m D st = true → SSs M d m D st
  | .nil, D, [], _ => by
    intro E X ρ h H σ τ De C P S r A
    rw [evSs] at A
    exact PSs.to pss_nil (A ρ H Nx.refl S τ r)
  | .nil, D, _ :: _, ck => by simp [ckSs] at ck
  | .cons _ _, D, [], ck => by simp [ckSs] at ck
  | .cons s rr, D, x :: xs, ck => by
    intro E X ρ h H σ τ De C P S r A
    rw [ckSs] at ck
    rw [evSs] at A
    cases hn : isNoS s with
    | true =>
      have := isNoS_eq hn
      subst this
      exact (show False from A).elim
    | false =>
    rw [hn, Bool.false_or] at ck
    rw [Bool.and_eq_true] at ck
    refine PSs.to (pss_cons psW pssW) (sS s D x ck.1 C P S r (AnsF.imp A.seq (fun ρ1 h1 H1 σ1 ⟨N1, S1, A1⟩ τ1 r1 => ?_) fun _ _ q => q))
    exact sSs rr D xs ck.2 C P S1 r1 A1
end
end
end Mn
end
section
set_option Elab.async false
set_option linter.all false
set_option maxRecDepth 100000
set_option maxHeartbeats 8000000
namespace Mn
open PySem PySem.Spec PyProof.Rows L2
section
variable {G : Env} {ρ ρ' : Nat → Addr} {n n' : Nat} {H H' : Hp} {h h' : Hm}
mutual
theorem old_ok (ag : ∀ i, i < n → ρ' i = ρ i) : ∀ (w : W) (v : V), old n w = true → RV G ρ' n' H' w v → RV G ρ n H' w v
  | .non, _, _, r => r
  | .bl _, _, _, r => r
  | .int _, _, _, r => r
  | .str _, _, _, r => r
  | .ref a, v, o, r => by
    obtain ⟨_, h2⟩ : a < n' ∧ v = .ref (ρ' a) := r
    have lt : a < n := by
      have z : Nat.blt a n = true := o
      exact Nat.le_of_ble_eq_true z
    exact ⟨lt, by rw [h2, ag a lt]⟩
  | .tup xs, v, o, r => by
    obtain ⟨t, ys, h1, h2, h3⟩ : ∃ t ys, v = .ref t ∧ H' t = some (.tup ys) ∧ RVs G ρ' n' H' xs ys := r
    exact ⟨t, ys, h1, h2, olds_ok ag xs ys o h3⟩
  | .ktup xs, v, o, r => by
    obtain ⟨t, ys, h1, h2, h3⟩ : ∃ t ys, v = .ref t ∧ KTp G t ys ∧ RVs G ρ' n' H' xs ys := r
    exact ⟨t, ys, h1, h2, olds_ok ag xs ys o h3⟩
  | .klst xs, v, o, r => by
    obtain ⟨t, ys, h1, h2, h3⟩ : ∃ t ys, v = .ref t ∧ Fz G H' t ys ∧ RVs G ρ' n' H' xs ys := r
    exact ⟨t, ys, h1, h2, olds_ok ag xs ys o h3⟩
theorem olds_ok (ag : ∀ i, i < n → ρ' i = ρ i) : ∀ (xs : List W) (ys : List V), olds n xs = true → RVs G ρ' n' H' xs ys → RVs G ρ n H' xs ys
  | [], _, _, r => r
  | x :: xs, ys, o, r => by
    obtain ⟨y, q, h1, h2, h3⟩ : ∃ y r, ys = y :: r ∧ RV G ρ' n' H' x y ∧ RVs G ρ' n' H' xs r := r
    have o' : (old n x && olds n xs) = true := o
    rw [Bool.and_eq_true] at o'
    exact ⟨y, q, h1, old_ok ag x y o'.1 h2, olds_ok ag xs q o'.2 h3⟩
end
theorem pure_back (S : Sim G ρ h H) (N : Nx ρ { h with lo := h.n } H ρ' h' H') : Nx ρ h H ρ h H' ∧ Sim G ρ h H' := by
  have low : ∀ i, i < h.n → H' (ρ i) = H (ρ i) := fun i hi => N.low i hi hi
  have kp : Kp ρ h.n H ρ h.n H' := ⟨Nat.le_refl _, fun _ _ => rfl, N.ext.tup⟩
  refine ⟨⟨⟨Nat.le_refl _, fun _ _ => rfl, N.ext.keep, fun i h1 h2 => absurd h2 (by omega), N.ext.tup, N.ext.there⟩, rfl, rfl, fun i _ hi => low i hi, fun i _ hi => low i hi⟩, S.inj, fun i hi => ?_, S.lkb, S.lkd⟩
  obtain ⟨o, e, r⟩ := S.obj i hi
  exact ⟨o, e, r.kp kp (low i hi)⟩
theorem pure_list (S : Sim G ρ h H) (N : Nx ρ { h with lo := h.n } H ρ' h' H') (S' : Sim G ρ' h' H') {a : Nat} {xs : List W} (ha : a < h'.n) (hn : h.n ≤ a) (hg : h'.g a = some (.lst xs)) (ho : olds h.n xs = true) :
    Nx ρ h H (ext1 ρ h.n (ρ' a)) (h.push (.lst xs)) H' ∧ Sim G (ext1 ρ h.n (ρ' a)) (h.push (.lst xs)) H' := by
  obtain ⟨N1, S1⟩ := pure_back S N
  have hfr : H (ρ' a) = none := N.ext.fresh a hn ha
  have hne : ∀ i, i < h.n → ρ i ≠ ρ' a := fun i hi z => by
    obtain ⟨x, hx, _⟩ := S.has hi
    rw [z, hfr] at hx
    cases hx
  obtain ⟨ys, h1, h2⟩ := S'.lst ha hg
  have kp : Kp ρ h.n H' (ext1 ρ h.n (ρ' a)) (h.n + 1) H' := ⟨Nat.le_succ _, fun i hi => ext1_lt hi, fun b o e _ => e⟩
  exact ⟨N1.adopt hfr, S1.adopt hne ⟨ys, h1, RVs.kp kp _ _ (olds_ok N.ext.ag _ _ ho h2)⟩⟩
theorem AnsF.of_out {r : F} {Q : VK} {E : XK} (A : Ans G ρ h H r.out (PQ G Q) E) : AnsF G ρ h H r (WD G { nx := fun _ H' => Q .non H', rt := Q }) E := by
  cases r with
  | st => exact A
  | nx σ h1 => exact fun ρ1 H1 N1 S1 τ _ => A ρ1 H1 N1 S1 .non rfl
  | rt w h1 => exact A
  | ex c fs σ h1 => exact A
theorem AnsF.of_pure {r : F} {Q : VK} {E : XK} (S : Sim G ρ h H) (A : Ans G ρ h H (match r.out with
    | .ok w h' => graft h h' w
    | .ex c [] _ => .ex c [] h
    | _ => .st) (PQ G Q) E) : AnsF G ρ { h with lo := h.n } H r (WD G { nx := fun _ H' => Q .non H', rt := Q }) E := by
  have ok : ∀ {w : W} {h1 : Hm}, Ans G ρ h H (graft h h1 w) (PQ G Q) E → ∀ ρ1 H1, Nx ρ { h with lo := h.n } H ρ1 h1 H1 → Sim G ρ1 h1 H1 → ∀ v, RV G ρ1 h1.n H1 w v → Q v H1 := fun {w h1} A ρ1 H1 N1 S1 v rv => by
    unfold graft at A
    split at A
    · rename_i ho
      obtain ⟨N2, S2⟩ := pure_back S N1
      exact A ρ H1 N2 S2 v (old_ok N1.ext.ag w v ho rv)
    · rename_i ho
      split at A
      · rename_i a
        obtain ⟨ha, rfl⟩ := rv.ref
        split at A
        · rename_i xs hx
          split at A
          · rename_i hxs
            have hn : h.n ≤ a := by
              have z : Nat.blt a h.n = false := ho
              exact Nat.le_of_not_lt fun q => by
                rw [show Nat.blt a h.n = true from Nat.ble_eq_true_of_le q] at z
                cases z
            obtain ⟨N2, S2⟩ := pure_list S N1 S1 ha hn hx hxs
            exact A _ H1 N2 S2 _ ⟨Nat.lt_succ_self _, by rw [ext1_same]⟩
          · exact A.elim
        · exact A.elim
      · exact A.elim
  cases r with
  | st => exact A
  | nx σ h1 => exact fun ρ1 H1 N1 S1 τ _ => ok A ρ1 H1 N1 S1 .non rfl
  | rt w h1 => exact fun ρ1 H1 N1 S1 v rv => ok A ρ1 H1 N1 S1 v rv
  | ex c fs σ h1 =>
    cases fs with
    | nil =>
      intro ρ1 H1 d N1 S1 x1
      obtain ⟨N2, S2⟩ := pure_back S N1
      exact A ρ H1 d N2 S2 x1
    | cons p fs => exact A.elim
end
theorem startW_get {G : Env} {ρ : Nat → Addr} {n : Nat} {H : Hp} {ws : List W} {vs : List V} {N : List Str} (r : RVs G ρ n H ws vs) : RS G ρ n H (startW N.length ws) (L2.start N vs) := by
  have hl := r.length
  refine ⟨by unfold startW L2.start; simp [hl], fun i w h => ?_⟩
  unfold startW at h
  unfold L2.start
  by_cases hi : i < ws.length
  · rw [List.getElem?_append_left (by rw [List.length_map]; exact hi), List.getElem?_map] at h
    cases q : ws[i]? with
    | none => rw [q] at h; cases h
    | some x =>
      rw [q] at h
      cases h
      obtain ⟨v, h1, h2⟩ := r.get q
      exact ⟨v, by rw [List.getElem?_append_left (by rw [List.length_map, ← hl]; exact hi), List.getElem?_map, h1]; rfl, h2⟩
  · rw [List.getElem?_append_right (by rw [List.length_map]; omega), List.getElem?_replicate] at h
    split at h <;> cases h
structure DefOk (M : Md) (f : Nat) (F : Fn) : Prop where
  ex : ∃ (name qual : Str) (params : Arguments) (body : List Stmt) (scope : Scope) (N : List Str), FunD M.G.K name qual params body scope [] [] (M.fa f) (M.fd f) ∧ FnScope N (M.fp f) scope ∧ N.length = F.ns ∧ ckSs M.tb F.body ⟨N, scope⟩ body = true
theorem fn_all {M : Md} (ok : M.Ok) (dok : ∀ f F, M.T.fn f = some F → DefOk M f F) : ∀ d f F, M.T.fn f = some F → FnOk M.P M.w M.G.K M.mg M.base (L2.CX M.P M.w) (lv d) (M.fa f) (M.fd f) (M.fp f) (spM M d f)
  | 0, f, F, hF => by
    refine ⟨fun vs H Q E h => h.1, fun A outer s H args us vs Q E _ _ _ _ h => ?_⟩
    obtain ⟨_, ρ, h, ws, _, _, A⟩ := h
    exact A.elim
  | d + 1, f, F, hF => by
    obtain ⟨name, qual, params, body, scope, N, FD, FS, hN, ck⟩ := (dok f F hF).ex
    refine FunD.ok (k := lv d + 1) FD FS (fun vs H Q E h => h.1) fun cdv A outer s H vs Q E hr hh => ?_
    obtain ⟨hl, ρ, h, ws, S, r, a⟩ := hh
    refine ⟨_, pssW, ?_⟩
    have C : Ctx M d ⟨N, scope⟩ E (cxOf (L2.CX M.P M.w) M.P M.w M.G.K M.mg M.base N qual scope (M.fa f) cdv A outer s H E) := by
      refine ⟨rfl, rfl, rfl, rfl, rfl, rfl, FS.nd, fun x k h => .inl h, FS.kind, rfl, ?_, hr, ?_, fun _ _ => rfl, fn_all ok dok d, ok⟩
      · have := hr.un
        show _ + 70 < cLine
        have e : (cxOf (L2.CX M.P M.w) M.P M.w M.G.K M.mg M.base N qual scope (M.fa f) cdv A outer s H E).A.units = (A.deeper (envOfC qual scope s.heap.objs.size (M.fa f) cdv)).units := rfl
        omega
      · exact takes_of rfl rfl rfl rfl
    have P : Own (cxOf (L2.CX M.P M.w) M.P M.w M.G.K M.mg M.base N qual scope (M.fa f) cdv A outer s H E) := ⟨passes_of rfl, rfl, rfl⟩
    have rs : RS M.G ρ h.n H (startW F.ns ws) (L2.start N vs) := by
      rw [← hN]
      exact startW_get r
    unfold run at a
    rw [hF] at a
    dsimp only at a
    split at a
    · split at a
      · -- pure
        rename_i hp
        have S0 : Sim M.G ρ { h with lo := h.n } H := ⟨S.inj, S.obj, S.lkb, S.lkd⟩
        exact sSs F.body ⟨N, scope⟩ body ck C P S0 rs (AnsF.of_pure S a)
      · exact sSs F.body ⟨N, scope⟩ body ck C P S rs (AnsF.of_out a)
    · exact a.elim
end Mn
end
section
set_option Elab.async false
set_option linter.all false
set_option maxRecDepth 100000
set_option maxHeartbeats 8000000
namespace Mn
open PySem PySem.Spec PyProof.Rows L2
theorem lookup_zip : ∀ {ps : List Str} {us : List Value} {n : Str}, us.length = ps.length → n ∈ ps → ((ps.zip us).lookup n).isSome = true
  | [], _, _, _, h => by cases h
  | p :: ps, [], _, h, _ => by cases h
  | p :: ps, u :: us, n, h, hm => by
    rw [List.zip_cons_cons, List.lookup_cons]
    cases e : n == p with
    | true => rfl
    | false =>
      have hne : n ≠ p := fun q => by rw [q, beq_self_eq_true] at e; cases e
      exact lookup_zip (Nat.succ.inj h) ((List.mem_cons.mp hm).resolve_left hne)
theorem binds_zip : ∀ {ps : List Str} {us : List Value}, us.length = ps.length → ps.Nodup → ps.filterMap (fun n => ((ps.zip us).lookup n).map (n, ·)) = ps.zip us := by
  have aux : ∀ (qs : List Str) (f : Str → Option Value) (us : List Value), us.length = qs.length → (∀ (i : Nat) (n : Str) (u : Value), qs[i]? = some n → us[i]? = some u → f n = some u) → qs.filterMap (fun n => (f n).map (n, ·)) = qs.zip us := by
    intro qs
    induction qs with
    | nil => intro f us _ _; rfl
    | cons q qs ih =>
      intro f us hl h
      cases us with
      | nil => cases hl
      | cons u us =>
        rw [List.filterMap_cons, h 0 q u rfl rfl]
        show (q, u) :: _ = _
        rw [List.zip_cons_cons, ih f us (Nat.succ.inj hl) fun i n u a b => h (i + 1) n u (by simpa using a) (by simpa using b)]
  intro ps us hl nd
  refine aux ps _ us hl fun i n u a b => ?_
  clear aux
  induction ps generalizing us i with
  | nil => simp at a
  | cons p ps ih =>
    cases us with
    | nil => cases hl
    | cons v us =>
      rw [List.zip_cons_cons, List.lookup_cons]
      cases i with
      | zero =>
        simp at a b
        subst a b
        rw [beq_self_eq_true]
      | succ i =>
        simp only [List.getElem?_cons_succ] at a b
        have hne : (n == p) = false := by
          cases e : n == p with
          | false => rfl
          | true =>
            have e' := eq_of_beq e
            subst e'
            exact absurd (List.mem_of_getElem? a) (List.nodup_cons.mp nd).1
        rw [hne]
        exact ih (Nat.succ.inj hl) (List.nodup_cons.mp nd).2 i a b
def plainP (a : Arguments) : Bool := a.posonlyargs.isEmpty && a.vararg.isNone && a.kwonlyargs.isEmpty && a.kwarg.isNone && a.defaults.isEmpty
theorem bind_plain {x qual : Str} {params : Arguments} {body : List Stmt} {scope : Scope} {ps : List Str} (hp : plainP params = true) (hn : params.args.map (·.arg) = ps) (nd : ps.Nodup) (kV doc pm : Value) (an : Option Addr) (cdv ct : Value) (us : List Value) (hl : us.length = ps.length) :
    bindArgs (PySem.W.fnOf x qual params body scope .none kV doc pm an cdv ct) ⟨us, []⟩ = pure (ps.zip us) := by
  obtain ⟨po, ag, va, ko, kd, kw, df⟩ := params
  unfold plainP at hp
  simp only [Bool.and_eq_true] at hp
  obtain ⟨⟨⟨⟨h1, h2⟩, h3⟩, h4⟩, h5⟩ := hp
  have e1 : po = [] := List.isEmpty_iff.mp h1
  have e2 : va = none := Option.isNone_iff_eq_none.mp h2
  have e3 : ko = [] := List.isEmpty_iff.mp h3
  have e4 : kw = none := Option.isNone_iff_eq_none.mp h4
  subst e1 e2 e3 e4
  have hn' : ag.map (·.arg) = ps := hn
  unfold bindArgs
  dsimp only [PySem.W.fnOf]
  have e5 : (seqItems? Value.none : Sem _) = pure none := rfl
  have em : (ps.filter fun n => ((ps.zip us).lookup n).isNone) = [] := by
    rw [List.filter_eq_nil_iff]
    intro n hn2
    have := lookup_zip hl hn2
    cases q : (ps.zip us).lookup n with
    | none => rw [q] at this; cases this
    | some v => simp
  have hng : ¬ us.length > ps.length := by omega
  simp [e5, hn', em, hng]
  exact congrArg _ (binds_zip hl nd)
theorem seq_of {K : PySem.W.Frag} {a : Addr} {s : String} {p : List Value → Bool} (h : (match K.lookup a with
    | some ⟨.type c, none, .seq its _, _⟩ => decide (c = s) && decide (its.size ≤ sizeLine) && p its.toList
    | _ => false) = true) : ∃ (o : Obj) (its : Array Value) (n : Nat), K.lookup a = some o ∧ o.cls = .type s ∧ o.dict = none ∧ o.data = .seq its n ∧ its.size ≤ sizeLine ∧ p its.toList = true := by
  split at h
  · rename_i c its n sl q
    simp only [Bool.and_eq_true] at h
    exact ⟨_, its, n, q, congrArg Value.type (of_decide_eq_true h.1.1), rfl, rfl, of_decide_eq_true h.1.2, h.2⟩
  · cases h
mutual
theorem conB_ok {G : Mn.Env} : ∀ (w : W) (u : Value), conB G.K w u = true → ∃ v, RelV v u ∧ ∀ ρ n H, RV G ρ n H w v
  | .non, u, h => by
    cases u <;> first
      | cases h; done
      | exact ⟨.non, rfl, fun _ _ _ => rfl⟩
  | .bl b, u, h => by
    cases u <;> first
      | cases h; done
      | (rename_i c
         have e : b = c := eq_of_beq h
         subst e
         exact ⟨.bl b, rfl, fun _ _ _ => rfl⟩)
  | .int i, u, h => by
    cases u <;> first
      | cases h; done
      | (rename_i j t
         have e : i = j := of_decide_eq_true h
         subst e
         exact ⟨.int i, ⟨t, rfl⟩, fun _ _ _ => rfl⟩)
  | .str s, u, h => by
    cases u <;> first
      | cases h; done
      | (rename_i z t
         have e : s = z := of_decide_eq_true h
         subst e
         exact ⟨.str s, ⟨t, rfl⟩, fun _ _ _ => rfl⟩)
  | .ref a, u, h => by cases u <;> cases h
  | .tup xs, u, h => by cases u <;> cases h
  | .klst xs, u, h => by
    cases u with
    | ref a =>
      obtain ⟨o, its, n, h1, h2, h3, h4, h5, h6⟩ := seq_of (p := conBs G.K xs) h
      obtain ⟨ys, r1, r2⟩ := conBs_ok xs its.toList h6
      exact ⟨.ref a, rfl, fun ρ m H => ⟨a, ys, rfl, .inr ⟨o, its, n, h1, h2, h3, h4, h5, r1⟩, r2 ρ m H⟩⟩
    | _ => cases h
  | .ktup xs, u, h => by
    cases u with
    | ref a =>
      obtain ⟨o, its, n, h1, h2, h3, h4, h5, h6⟩ := seq_of (p := conBs G.K xs) h
      obtain ⟨ys, r1, r2⟩ := conBs_ok xs its.toList h6
      exact ⟨.ref a, rfl, fun ρ m H => ⟨a, ys, rfl, ⟨o, its, n, h1, h2, h3, h4, h5, r1⟩, r2 ρ m H⟩⟩
    | _ => cases h
theorem conBs_ok {G : Mn.Env} : ∀ (ws : List W) (us : List Value), conBs G.K ws us = true → ∃ vs, Vals vs us ∧ ∀ ρ n H, RVs G ρ n H ws vs
  | [], us, h => by
    cases us with
    | nil => exact ⟨[], .nil, fun _ _ _ => rfl⟩
    | cons u us => cases h
  | w :: ws, us, h => by
    cases us with
    | nil => cases h
    | cons u us =>
      have h' : (conB G.K w u && conBs G.K ws us) = true := h
      rw [Bool.and_eq_true] at h'
      obtain ⟨v, h1, h2⟩ := conB_ok w u h'.1
      obtain ⟨vs, h3, h4⟩ := conBs_ok ws us h'.2
      exact ⟨v :: vs, .cons h1 h3, fun ρ n H => ⟨v, vs, rfl, h2 ρ n H, h4 ρ n H⟩⟩
end
def scopeC (N ps : List Str) (sc : Scope) : Bool := (match sc.kind with
  | .function => true
  | _ => false) && !sc.isCoroutine && !sc.isGenerator && decide N.Nodup && decide (N.take ps.length = ps) && (ps.all fun x => match sc.names.lookup x with
  | some .local => true
  | some .cell => true
  | _ => false) && sc.names.all fun y => match y.2 with
  | .free => false
  | _ => true
theorem scopeC_ok {N ps : List Str} {sc : Scope} (h : scopeC N ps sc = true) : FnScope N ps sc := by
  unfold scopeC at h
  simp only [Bool.and_eq_true] at h
  obtain ⟨⟨⟨⟨⟨⟨h1, h2⟩, h3⟩, h4⟩, h5⟩, h6⟩, h7⟩ := h
  refine ⟨?_, by simpa using h2, by simpa using h3, of_decide_eq_true h4, of_decide_eq_true h5, fun x hx => ?_, fun y hy e => ?_⟩
  · split at h1
    · assumption
    · cases h1
  · have z := List.all_eq_true.mp h6 x hx
    split at z
    · rename_i q; exact .inl q
    · rename_i q; exact .inr q
    · cases z
  · have z := List.all_eq_true.mp h7 y hy
    rw [e] at z
    cases z
def ckDef (B : Tb) (d : Dd) (F : Fn) : Bool := decide (d.ps.length = F.ps) && decide (d.N.length = F.ns) && plainP (defArgs d.st) && scopeC d.N d.ps (defScope d.st) && ckSs B F.body ⟨d.N, defScope d.st⟩ (defBody d.st)
def ckDefs (B : Tb) : List (Nat × Dd) → List (Nat × Fn) → Bool
  | [], [] => true
  | (i, d) :: ds, (j, F) :: Fs => Nat.beq i j && ckDef B d F && ckDefs B ds Fs
  | _, _ => false
theorem ckDefs_cons {B : Tb} {i j : Nat} {d : Dd} {F : Fn} {ds : List (Nat × Dd)} {Fs : List (Nat × Fn)} (h : ckDefs B ((i, d) :: ds) ((j, F) :: Fs) = true) : i = j ∧ ckDef B d F = true ∧ ckDefs B ds Fs = true := by
  have h' : (Nat.beq i j && ckDef B d F && ckDefs B ds Fs) = true := h
  rw [Bool.and_eq_true, Bool.and_eq_true] at h'
  exact ⟨Nat.eq_of_beq_eq_true h'.1.1, h'.1.2, h'.2⟩
theorem ckDefs_at {B : Tb} : ∀ {ds : List (Nat × Dd)} {Fs : List (Nat × Fn)} {f : Nat} {F : Fn}, ckDefs B ds Fs = true → Fs.lookup f = some F → ∃ d, ds.lookup f = some d ∧ ckDef B d F = true
  | [], [], _, _, _, h => by cases h
  | [], _ :: _, _, _, h, _ => by cases h
  | _ :: _, [], _, _, h, _ => by cases h
  | (i, d) :: ds, (j, G) :: Fs, f, F, h, e => by
    obtain ⟨rfl, h1, h2⟩ := ckDefs_cons h
    rw [List.lookup_cons] at e ⊢
    cases q : f == i with
    | true =>
      rw [q] at e
      cases e
      exact ⟨d, rfl, h1⟩
    | false =>
      rw [q] at e
      exact ckDefs_at h2 e
theorem ckDefs_ta {B : Tb} : ∀ {ds : List (Nat × Dd)} {Fs : List (Nat × Fn)} {f : Nat} {d : Dd}, ckDefs B ds Fs = true → ds.lookup f = some d → ∃ F, Fs.lookup f = some F ∧ ckDef B d F = true
  | [], [], _, _, _, h => by cases h
  | [], _ :: _, _, _, h, _ => by cases h
  | _ :: _, [], _, _, h, _ => by cases h
  | (i, d) :: ds, (j, G) :: Fs, f, F, h, e => by
    obtain ⟨rfl, h1, h2⟩ := ckDefs_cons h
    rw [List.lookup_cons] at e ⊢
    cases q : f == i with
    | true =>
      rw [q] at e
      cases e
      exact ⟨G, rfl, h1⟩
    | false =>
      rw [q] at e
      exact ckDefs_ta h2 e
def Src.at_ (S : Src) (f : Nat) : Option (Str × Option Str) := (S.ds.lookup f).map (·.at_)
def nodupB : List Str → Bool
  | [] => true
  | x :: xs => !(xs.any fun y => decide (y = x)) && nodupB xs
theorem nodupB_ok : ∀ {xs : List Str}, nodupB xs = true → xs.Nodup
  | [], _ => List.nodup_nil
  | x :: xs, h => by
    have h' : (!(xs.any fun y => decide (y = x)) && nodupB xs) = true := h
    rw [Bool.and_eq_true] at h'
    refine List.nodup_cons.mpr ⟨fun hm => ?_, nodupB_ok h'.2⟩
    have z : (xs.any fun y => decide (y = x)) = true := List.any_eq_true.mpr ⟨x, hm, decide_eq_true rfl⟩
    have z2 := h'.1
    rw [z] at z2
    cases z2
def Src.fit (S : Src) : Bool :=
  (S.funs.all fun p => decide (S.at_ p.2 = some (p.1, none))) &&
  (S.clss.all fun p => decide (S.cn.getD p.2 "" = p.1) && (match S.T.inits.lookup p.2 with
    | some f => (S.T.fn f).isSome
    | none => false)) &&
  (S.T.inits.all fun p => decide (S.at_ p.2 = some (S.cn.getD p.1 "", some ("__init__" : Str)))) &&
  (S.T.meths.all fun p => decide (S.at_ p.2.2 = some (S.cn.getD p.1 "", some (S.fl.getD p.2.1 ""))) && decide (p.1 ∈ S.T.cl) && decide (p.2.1 < S.T.nf) && (S.T.fn p.2.2).isSome) &&
  decide (S.T.nf = S.fl.length) && nodupB S.fl && (S.gone.all fun f => (S.T.fn f).isNone) && (S.goneC.all fun c => (S.T.inits.lookup c).isNone) && (S.excs.all fun p => decide (S.cn.getD p.2 "" = p.1))
theorem nodup_inj {α : Type} : ∀ {l : List α} {i j : Nat}, l.Nodup → (hi : i < l.length) → (hj : j < l.length) → l[i] = l[j] → i = j
  | [], _, _, _, hi, _, _ => absurd hi (by simp)
  | x :: l, 0, 0, _, _, _, _ => rfl
  | x :: l, 0, j + 1, nd, hi, hj, e => by
    have e' : x = l[j]'(by simpa using hj) := e
    exact absurd (by rw [e']; exact List.getElem_mem _) (List.nodup_cons.mp nd).1
  | x :: l, i + 1, 0, nd, hi, hj, e => by
    have e' : l[i]'(by simpa using hi) = x := e
    exact absurd (by rw [← e']; exact List.getElem_mem _) (List.nodup_cons.mp nd).1
  | x :: l, i + 1, j + 1, nd, hi, hj, e => congrArg (· + 1) (nodup_inj (List.nodup_cons.mp nd).2 (by simpa using hi) (by simpa using hj) e)
def Src.md (S : Src) (P : Program) (w : World) (mg : Str → Option Value) (base : Heap) (K : PySem.W.Frag) (fd : Nat → FuncData) : Md where
  P := P
  w := w
  mg := mg
  base := base
  G := ⟨K, fun c => He.ga K (S.cn.getD c ""), fun i => S.fl.getD i "", S.T.nf⟩
  T := S.T
  fa := fun f => match S.at_ f with
    | some a => He.fAd K a
    | none => 0
  fd := fd
  fp := fun f => match S.ds.lookup f with
    | some d => d.ps
    | none => []
  tb := S.tb
section
variable {S : Src} {P : Program} {w : World} {mg : Str → Option Value} {h base : Heap} {K : PySem.W.Frag} {fd : Nat → FuncData}
theorem lookup_mem' {α β : Type} [BEq α] [LawfulBEq α] {k : α} {v : β} : ∀ {l : List (α × β)}, l.lookup k = some v → (k, v) ∈ l
  | [], h => by cases h
  | (a, b) :: l, h => by
    rw [List.lookup_cons] at h
    cases q : k == a with
    | true =>
      rw [q] at h
      cases h
      rw [eq_of_beq q]
      exact List.mem_cons_self
    | false =>
      rw [q] at h
      exact List.mem_cons_of_mem _ (lookup_mem' h)
theorem SaysS.def_ (c : SaysS S K) {f : Nat} {d : Dd} (e : S.ds.lookup f = some d) : ∃ fd, FunD K (d.at_.2.getD d.at_.1) d.qual (defArgs d.st) (defBody d.st) (defScope d.st) [] [] (He.fAd K d.at_) fd := by
  have hm := lookup_mem' e
  have c1 : (S.told K && S.ds.all fun d => d.2.dd.ok K) = true := congrArg (fun z : AlS => z.1) c
  rw [Bool.and_eq_true] at c1
  have c2 : S.ds.map (fun d => He.fnW K d.2.at_) = S.ds.map fun d => d.2.dd.val := congrArg (fun z : AlS => z.2) c
  have c3 := List.map_inj_left.mp c2 _ hm
  exact He.DefD.funD (d := d.dd) c3 (List.all_eq_true.mp c1.2 _ hm)
theorem SaysS.told (c : SaysS S K) : S.told K = true := by
  have c1 : (S.told K && S.ds.all fun d => d.2.dd.ok K) = true := congrArg (fun z : AlS => z.1) c
  rw [Bool.and_eq_true] at c1
  exact c1.1
theorem methOf_mem {c m f : Nat} : ∀ {l : List (Nat × Nat × Nat)}, methOf l c m = some f → (c, m, f) ∈ l
  | [], h => by cases h
  | (a, b, g) :: l, h => by
    unfold methOf at h
    split at h
    · rename_i q
      cases h
      rw [q.1, q.2]
      exact List.mem_cons_self
    · exact List.mem_cons_of_mem _ (methOf_mem h)
theorem Src.fa_at (e : S.at_ f = some a) : (S.md P w mg base K fd).fa f = He.fAd K a := by
  show (match S.at_ f with
    | some a => He.fAd K a
    | none => 0) = _
  rw [e]
theorem Src.ok (hc : ckDefs S.tb S.ds S.T.fns = true) (hf : S.fit = true) (X : K.In h) (Gg : h.Ns mainGlobals mg) (c : SaysS S K)
    (hfd : ∀ f d, S.ds.lookup f = some d → FunD K (d.at_.2.getD d.at_.1) d.qual (defArgs d.st) (defBody d.st) (defScope d.st) [] [] (He.fAd K d.at_) (fd f)) : (S.md P w mg base K fd).Ok := by
  have t := c.told
  unfold Src.told at t
  simp only [Bool.and_eq_true] at t
  obtain ⟨⟨⟨⟨⟨⟨⟨⟨⟨t1, t2⟩, t3⟩, t4⟩, t5⟩, t6⟩, t7⟩, t8⟩, t9⟩, t10⟩ := t
  unfold Src.fit at hf
  simp only [Bool.and_eq_true] at hf
  obtain ⟨⟨⟨⟨⟨⟨⟨⟨f1, f2⟩, f3⟩, f4⟩, f5⟩, f6⟩, f7⟩, f8⟩, f9⟩ := hf
  have atD : ∀ {f : Nat} {a : Str × Option Str}, S.at_ f = some a → ∃ d, S.ds.lookup f = some d ∧ d.at_ = a := fun {f a} e => by
    unfold Src.at_ at e
    cases q : S.ds.lookup f with
    | none => rw [q] at e; cases e
    | some d =>
      rw [q] at e
      cases e
      exact ⟨d, rfl, rfl⟩
  refine ⟨fun x ww hx => ?_, fun x f hx => ?_, fun f F hF => ?_, fun f F hF => ?_, fun x cc hx => ?_, fun cc hcc => ?_, fun cc f hx => ?_, fun cc m f hx => ?_, fun cc f hx => ?_, fun x cc hx => ?_, fun x hx => ?_, fun f hx => ?_, fun cc hx => ?_, fun x hx => ?_, rfl, fun _ => rfl, fun i j hi hj e => ?_⟩
  · have z := List.all_eq_true.mp t1 _ (lookup_mem' hx)
    have z' : conIn K x ww = true := z
    unfold conIn at z'
    split at z'
    · rename_i u q
      obtain ⟨v, h1, h2⟩ := conB_ok (G := (S.md P w mg base K fd).G) ww u z'
      exact ⟨u, v, PySem.W.mg_of X Gg q, h1, h2⟩
    · cases z'
  · have hm := lookup_mem' hx
    have z := He.glo_ok X Gg (List.all_eq_true.mp t2 _ hm)
    have a := of_decide_eq_true (List.all_eq_true.mp f1 _ hm)
    obtain ⟨d, d1, d2⟩ := atD a
    have fa : (S.md P w mg base K fd).fa f = He.ga K x := (Src.fa_at a).trans rfl
    refine ⟨by rw [fa]; exact z, by rw [fa]; have k := (hfd f d d1).kp; rw [d2] at k; exact k, ?_⟩
    obtain ⟨F, h1, _⟩ := ckDefs_ta hc d1
    exact ⟨F, h1⟩
  · obtain ⟨d, d1, d2⟩ := ckDefs_at hc hF
    show (match S.ds.lookup f with
      | some d => d.ps
      | none => []).length = F.ps
    rw [d1]
    unfold ckDef at d2
    simp only [Bool.and_eq_true] at d2
    exact of_decide_eq_true d2.1.1.1.1
  · obtain ⟨d, d1, d2⟩ := ckDefs_at hc hF
    unfold ckDef at d2
    simp only [Bool.and_eq_true] at d2
    have sc := scopeC_ok d2.1.2
    have nd : d.ps.Nodup := by
      rw [← sc.pre]
      exact sc.nd.sublist (List.take_sublist _ _)
    show Binds K (fd f) (match S.ds.lookup f with
      | some d => d.ps
      | none => []) []
    rw [d1]
    exact FunD.bindsN (hfd f d d1) fun kV doc pm an cdv ct us hl => bind_plain d2.1.1.2 rfl nd kV doc pm an cdv ct us hl
  · have hm := lookup_mem' hx
    have z := He.glo_ok X Gg (List.all_eq_true.mp t3 _ hm)
    have a := List.all_eq_true.mp f2 _ hm
    rw [Bool.and_eq_true] at a
    have e := of_decide_eq_true a.1
    refine ⟨?_, ?_⟩
    · show mg x = some (.ref (He.ga K (S.cn.getD cc "")))
      rw [show S.cn.getD cc "" = x from e]
      exact z
    · have a2 := a.2
      split at a2
      · rename_i f q
        obtain ⟨F, hF⟩ := Option.isSome_iff_exists.mp a2
        exact ⟨f, F, q, hF⟩
      · cases a2
  · exact He.cls_ok (List.all_eq_true.mp t4 _ hcc)
  · have hm := lookup_mem' hx
    have a := of_decide_eq_true (List.all_eq_true.mp f3 _ hm)
    have fa : (S.md P w mg base K fd).fa f = He.ma K (He.ga K (S.cn.getD cc "")) "__init__" := (Src.fa_at a).trans rfl
    show Mk K (He.ga K (S.cn.getD cc "")) ((S.md P w mg base K fd).fa f)
    rw [fa]
    exact He.mkr_ok (List.all_eq_true.mp t5 _ hm)
  · have hm := methOf_mem hx
    have a := List.all_eq_true.mp f4 _ hm
    simp only [Bool.and_eq_true] at a
    obtain ⟨⟨⟨a1, a2⟩, a3⟩, a4⟩ := a
    obtain ⟨F, hF⟩ := Option.isSome_iff_exists.mp a4
    have fa : (S.md P w mg base K fd).fa f = He.ma K (He.ga K (S.cn.getD cc "")) (S.fl.getD m "") := (Src.fa_at (of_decide_eq_true a1)).trans rfl
    refine ⟨of_decide_eq_true a2, of_decide_eq_true a3, ?_, F, hF⟩
    show Meth K (He.ga K (S.cn.getD cc "")) (S.fl.getD m "") ((S.md P w mg base K fd).fa f)
    rw [fa]
    exact He.meth_ok (List.all_eq_true.mp t6 _ hm)
  · exact He.noat_ok (List.all_eq_true.mp t7 _ hx)
  · have hm := lookup_mem' hx
    have z := List.all_eq_true.mp t9 _ hm
    have z' : ((He.Fa.glo x).ok K && (He.Fa.exc x).ok K) = true := z
    rw [Bool.and_eq_true] at z'
    have e := of_decide_eq_true (List.all_eq_true.mp f9 _ hm)
    have g := He.glo_ok X Gg z'.1
    obtain ⟨g1, g2, g3, g4⟩ := He.exc_ok z'.2
    have e' : S.cn.getD cc "" = x := e
    show mg x = some (.ref (He.ga K (S.cn.getD cc ""))) ∧ PySem.W.excIn K (He.ga K (S.cn.getD cc "")) _ _ = true ∧ PySem.W.keepIn K (.ref (He.ga K (S.cn.getD cc ""))) = true ∧ _
    rw [e']
    refine ⟨g, g1, g2, ?_⟩
    show PySem.W.subIn K (.ref (He.ga K (S.cn.getD cc ""))) _ = some true ∧ PySem.W.typeIn K (.ref (He.ga K (S.cn.getD cc ""))) = _
    rw [e']
    exact ⟨g3, g4⟩
  · exact ⟨_, He.glo_ok X Gg (List.all_eq_true.mp t10 _ hx)⟩
  · exact Option.isNone_iff_eq_none.mp (List.all_eq_true.mp f7 _ hx)
  · exact Option.isNone_iff_eq_none.mp (List.all_eq_true.mp f8 _ hx)
  · exact He.free_ok X Gg (List.all_eq_true.mp t8 _ hx)
  · have en := of_decide_eq_true f5
    have nd := nodupB_ok f6
    have hi' : i < S.fl.length := by rw [← en]; exact hi
    have hj' : j < S.fl.length := by rw [← en]; exact hj
    have e' : S.fl.getD i "" = S.fl.getD j "" := e
    rw [List.getD_eq_getElem?_getD, List.getD_eq_getElem?_getD, List.getElem?_eq_getElem hi', List.getElem?_eq_getElem hj'] at e'
    exact nodup_inj nd hi' hj' e'
theorem Src.dok (hc : ckDefs S.tb S.ds S.T.fns = true) (hfd : ∀ f d, S.ds.lookup f = some d → FunD K (d.at_.2.getD d.at_.1) d.qual (defArgs d.st) (defBody d.st) (defScope d.st) [] [] (He.fAd K d.at_) (fd f)) :
    ∀ f F, S.T.fn f = some F → DefOk (S.md P w mg base K fd) f F := fun f F hF => by
  obtain ⟨d, d1, d2⟩ := ckDefs_at hc hF
  unfold ckDef at d2
  simp only [Bool.and_eq_true] at d2
  have ea : S.at_ f = some d.at_ := by
    unfold Src.at_
    rw [d1]
    rfl
  have fa : (S.md P w mg base K fd).fa f = He.fAd K d.at_ := Src.fa_at ea
  have fp : (S.md P w mg base K fd).fp f = d.ps := by
    show (match S.ds.lookup f with
      | some d => d.ps
      | none => []) = _
    rw [d1]
  refine ⟨d.at_.2.getD d.at_.1, d.qual, defArgs d.st, defBody d.st, defScope d.st, d.N, ?_, ?_, of_decide_eq_true d2.1.1.1.2, d2.2⟩
  · rw [fa]
    exact hfd f d d1
  · rw [fp]
    exact scopeC_ok d2.1.2
end
end Mn
end
section
set_option Elab.async false
set_option linter.all false
set_option maxRecDepth 100000
set_option maxHeartbeats 8000000
namespace Mn
open PySem PySem.Spec PyProof.Rows L2
def h0 : Hm := ⟨0, 0, [], fun _ => none⟩
def Src.law (S : Src) (D li : Nat) (xs : List Int) : R W := run S.T D li [.klst (xs.map .int)] h0
theorem ints_RVs {G : Mn.Env} {ρ : Nat → Addr} {n : Nat} {H : Hp} : ∀ xs : List Int, RVs G ρ n H (xs.map .int) (xs.map V.int)
  | [] => rfl
  | x :: xs => ⟨_, _, rfl, rfl, ints_RVs xs⟩
theorem walk_end {l : PySem.W.OpenLaw} {n : Nat} {q : Program} {loose : List Str} {XP : (Str → Option Value) → Heap → Prop} {d : DefRec} (S : Src) (D li : Nat) (dl : Dd)
    (hn : l.most = some n) (hn2 : n ≤ sizeLine) (hdf : d.params.defaults = []) (hr : Room (lv D) callerA)
    (hc : ckDefs S.tb S.ds S.T.fns = true) (hf : S.fit = true) (hl : S.ds.lookup li = some dl) (hp : dl.ps = [("script" : Str)]) (ha : dl.at_ = (d.name, none)) (hfu : S.funs.lookup d.name = some li)
    (hrun : ∀ xs : List Int, xs.length ≤ n → ∃ h', S.law D li xs = .ok (.bl true) h') :
    PySem.W.WalkO q loose XP (hookS S).says l.row.toRowW d [] (fun f vs => PySem.call f vs) := by
  refine Att.attach_call hn hdf fun w s₀ s₁ mg mb fa o pm cd doc a vs ns G Y ho hd hcd hmg hobj hints hlen hg => ?_
  obtain ⟨K, KX, c⟩ := Y
  obtain ⟨fd, hfd⟩ : ∃ fd : Nat → FuncData, ∀ f d, S.ds.lookup f = some d → FunD K (d.at_.2.getD d.at_.1) d.qual (defArgs d.st) (defBody d.st) (defScope d.st) [] [] (He.fAd K d.at_) (fd f) := by
    classical
    refine ⟨fun f => if h : ∃ d, S.ds.lookup f = some d then (c.def_ h.choose_spec).choose else (c.def_ hl).choose, fun f d e => ?_⟩
    have h : ∃ d, S.ds.lookup f = some d := ⟨d, e⟩
    have key : ∀ d' (e' : S.ds.lookup f = some d'), d' = d → FunD K (d.at_.2.getD d.at_.1) d.qual (defArgs d.st) (defBody d.st) (defScope d.st) [] [] (He.fAd K d.at_) (c.def_ e').choose := by
      rintro d' e' rfl
      exact (c.def_ e').choose_spec
    dsimp only
    rw [dif_pos h]
    exact key _ h.choose_spec (Option.some.inj (h.choose_spec.symm.trans e))
  have ok : ∀ base : Heap, K.In base → base.Ns mainGlobals mg → (S.md l.prog w mg base K fd).Ok := fun base h1 h2 => Src.ok hc hf h1 h2 c hfd
  have ok0 := ok _ KX G.T.g
  obtain ⟨F, hF, dF⟩ := ckDefs_ta hc hl
  have all : ∀ base : Heap, K.In base → base.Ns mainGlobals mg → FnOk l.prog w K mg base (L2.CX l.prog w) (lv D) fa (fd li) [("script" : Str)] (spM (S.md l.prog w mg base K fd) D li) := fun base h1 h2 => by
    have z := fn_all (ok base h1 h2) (Src.dok hc hfd) D li F hF
    have e1 : (S.md l.prog w mg base K fd).fa li = fa := by
      have z1 := ((ok base h1 h2).funs d.name li hfu).1
      have z2 : mg d.name = some (.ref ((S.md l.prog w mg base K fd).fa li)) := z1
      rw [hmg] at z2
      cases z2
      rfl
    have e2 : (S.md l.prog w mg base K fd).fp li = [("script" : Str)] := by
      show (match S.ds.lookup li with
        | some d => d.ps
        | none => []) = _
      rw [hl]
      exact hp
    rw [e1, e2] at z
    exact z
  have hb : ∀ (s : Shared) (u : Value), BindsTo s (fd li) ⟨[u], []⟩ [(("script" : Str), u)] := fun s u => by
    unfold ckDef at dF
    simp only [Bool.and_eq_true] at dF
    have sc := scopeC_ok dF.1.2
    have nd : dl.ps.Nodup := by
      rw [← sc.pre]
      exact sc.nd.sublist (List.take_sublist _ _)
    have z := FunD.bindsA (ps := dl.ps) (hfd li dl hl) (fun kV doc pm an cdv ct us hl => bind_plain dF.1.1.2 rfl nd kV doc pm an cdv ct us hl) s [u] (by rw [hp]; rfl)
    rw [hp] at z
    exact z
  refine law_call (sp := fun vs H Q E => ∀ base, K.In base → base.Ns mainGlobals mg → spM (S.md l.prog w mg base K fd) D li vs H Q E) KX G.T.g G.T.b G.T.builtins G.T.nolimit hg hobj hints (Nat.le_trans hlen hn2) hr (fun base h1 h2 => (all base h1 h2).imp fun vs H Q E z => z base h1 h2) hb ?_ ?_
  · intro H hO hS base h1 h2
    have e2 : (S.md l.prog w mg base K fd).fp li = [("script" : Str)] := by
      show (match S.ds.lookup li with
        | some d => d.ps
        | none => []) = _
      rw [hl]
      exact hp
    refine ⟨by rw [e2]; rfl, fun _ => 0, h0, [.klst (ns.map .int)], ?_, ?_, ?_⟩
    · exact ⟨fun i j hi => absurd hi (by simp [h0]), fun i hi => absurd hi (by simp [h0]), fun a ha => absurd ha (by simp [h0]), fun a ha => absurd ha (by simp [h0])⟩
    · refine ⟨_, [], rfl, ⟨a, _, rfl, ?_, ints_RVs ns⟩, rfl⟩
      rcases hS with (z | ⟨o, z⟩) | z
      · rcases hO a with y | ⟨o, xs, y⟩
        · rw [y] at z; cases z
        · rw [y] at z; cases z
      · exact .inl ⟨o, z⟩
      · obtain ⟨o, its, m, z1, z2, z3, z4, z5, z6⟩ := z
        exact .inr ⟨o, its, m, z1, z2, z3, z4, z5, z6⟩
    · obtain ⟨h', e⟩ := hrun ns hlen
      have e' : run (S.md l.prog w mg base K fd).T D li [.klst (ns.map .int)] h0 = .ok (.bl true) h' := e
      rw [e']
      exact fun ρ' H' N' S' v rv => rv
  · rintro H e s' ⟨_, _, _, _, _, h⟩
    exact h.2.2.2.2.2.2.2
end Mn
end
section
set_option Elab.async false
set_option linter.all false
set_option maxRecDepth 100000
set_option maxHeartbeats 4000000
namespace Mn
open PySem L2
section
variable {α β : Type} {C : Cf} {σ : List (Option W)} {h h' : Hm}
@[simp] theorem R.bind_ok (a : α) (h : Hm) (f : α → Hm → R β) : (R.ok a h).bind f = f a h := rfl
@[simp] theorem R.bind_ex (c : Nat) (fs : List (Nat × W)) (h : Hm) (f : α → Hm → R β) : (R.ex c fs h : R α).bind f = .ex c fs h := rfl
@[simp] theorem R.bind_st (f : α → Hm → R β) : (R.st : R α).bind f = .st := rfl
@[simp] theorem R.fl_ok (a : α) (h : Hm) (f : α → Hm → F) : (R.ok a h).fl σ f = f a h := rfl
@[simp] theorem R.fl_ex (c : Nat) (fs : List (Nat × W)) (h : Hm) (f : α → Hm → F) : (R.ex c fs h : R α).fl σ f = .ex c fs σ h := rfl
@[simp] theorem F.seq_nx (f : List (Option W) → Hm → F) : (F.nx σ h).seq f = f σ h := rfl
@[simp] theorem F.seq_rt (w : W) (f : List (Option W) → Hm → F) : (F.rt w h).seq f = .rt w h := rfl
@[simp] theorem F.seq_ex (c : Nat) (fs : List (Nat × W)) (f : List (Option W) → Hm → F) : (F.ex c fs σ h).seq f = .ex c fs σ h := rfl
@[simp] theorem F.out_nx : (F.nx σ h).out = .ok .non h := rfl
@[simp] theorem F.out_rt (w : W) : (F.rt w h).out = .ok w h := rfl
@[simp] theorem F.out_ex (c : Nat) (fs : List (Nat × W)) : (F.ex c fs σ h).out = .ex c fs h := rfl
@[simp] theorem F.noex_nx : (F.nx σ h).noex = .nx σ h := rfl
@[simp] theorem F.noex_rt (w : W) : (F.rt w h).noex = .rt w h := rfl
@[simp] theorem R.noex_ok (a : α) : (R.ok a h).noex = .ok a h := rfl
@[simp] theorem evSs_nil : evSs C .nil σ h = .nx σ h := rfl
@[simp] theorem evSs_cons {s : Sm} {r : Sms} : evSs C (.cons s r) σ h = (evS C s σ h).seq fun σ h => evSs C r σ h := rfl
@[simp] theorem evS_expr {e : Ex} : evS C (.expr e) σ h = (evE C e σ h).fl σ fun _ h => .nx σ h := rfl
@[simp] theorem evS_set1 {i : Nat} {e : Ex} : evS C (.set (.one i) e) σ h = (evE C e σ h).fl σ fun w h => .nx (σ.set i (some w)) h := rfl
theorem evS_set {t : Tg} {e : Ex} : evS C (.set t e) σ h = (evE C e σ h).fl σ fun w h => match store t w σ h with
    | some σ => .nx σ h
    | none => .st := rfl
@[simp] theorem evS_fld {o : Ex} {f : Nat} {e : Ex} : evS C (.fld o f e) σ h = (evE C e σ h).fl σ fun w h => (evE C o σ h).fl σ fun x h => match x with
    | .ref a => (match h.g a with
      | some (.ins c fs) => if h.lo ≤ a ∧ C.bad c f = false ∧ fs.length < 1000 then .nx σ (h.put a (.ins c (putF f w fs))) else .st
      | _ => .st)
    | _ => .st := rfl
@[simp] theorem evS_item {o i e : Ex} : evS C (.item o i e) σ h = (evE C e σ h).fl σ fun w h => (evE C o σ h).fl σ fun x h => (evE C i σ h).fl σ fun k h => (sett x k w h).fl σ fun _ h => .nx σ h := rfl
@[simp] theorem evS_ret {e : Ex} : evS C (.ret e) σ h = (evE C e σ h).fl σ fun w h => .rt w h := rfl
@[simp] theorem evS_ite {c : Ex} {a b : Sms} : evS C (.ite c a b) σ h = (evT C c σ h).fl σ fun t h => match t with
    | true => evSs C a σ h
    | false => evSs C b σ h := rfl
theorem evS_whl {c : Ex} {b : Sms} : evS C (.whl c b) σ h = whileL (fun σ h => evT C c σ h) (fun σ h => evSs C b σ h) 1000000 σ h := rfl
theorem evS_for {t : Tg} {it : It} {b : Sms} : evS C (.for t it b) σ h = withLock .st F.relk (toLock (evL C it σ h)) h fun h => (evI C it σ h).fl σ fun p h => (forL p.gd (fun x σ h => match store t x σ h with
      | some σ => evSs C b σ h
      | none => .st) p.xs σ h) := rfl
@[simp] theorem evS_raise {c : Nat} : evS C (.raise c) σ h = .ex c [] σ h := rfl
@[simp] theorem evS_pass : evS C .pass σ h = .nx σ h := rfl
@[simp] theorem evS_tri {b : Sms} : evS C (.tri b) σ h = (evSs C b σ h).noex := rfl
theorem evS_forN {t : Tg} {it : It} {b : Sms} (hl : toLock (evL C it σ h) = none) : evS C (.for t it b) σ h = (evI C it σ h).fl σ fun p h => (forL p.gd (fun x σ h => match store t x σ h with
      | some σ => evSs C b σ h
      | none => .st) p.xs σ h) := by
  rw [evS_for, hl]
  rfl
@[simp] theorem Exs.of_nil : Exs.of [] = .nil := rfl
@[simp] theorem Exs.of_cons {e : Ex} {r : List Ex} : Exs.of (e :: r) = .cons e (.of r) := rfl
@[simp] theorem Sms.of_nil : Sms.of [] = .nil := rfl
@[simp] theorem Sms.of_cons {e : Sm} {r : List Sm} : Sms.of (e :: r) = .cons e (.of r) := rfl
end
section
variable {C : Cf} {σ : List (Option W)} {h : Hm}
@[simp] theorem q_evE_loc {i : Nat} : evE C (.loc i) σ h = (match σ[i]? with
    | some (some w) => .ok w h
    | _ => .st) := evE_loc
@[simp] theorem q_evT_loc {i : Nat} : evT C (.loc i) σ h = truR (evE C (.loc i) σ h) := evT_loc
@[simp] theorem q_evE_con {w : W} : evE C (.con w) σ h = (.ok w h) := evE_con
@[simp] theorem q_evT_con {w : W} : evT C (.con w) σ h = truR (evE C (.con w) σ h) := evT_con
@[simp] theorem q_evE_bin {o : BO} {a : Ex} {b : Ex} : evE C (.bin o a b) σ h = ((evE C a σ h).bind fun x h => (evE C b σ h).bind fun y h => binW o x y h) := evE_bin
@[simp] theorem q_evT_bin {o : BO} {a : Ex} {b : Ex} : evT C (.bin o a b) σ h = truR (evE C (.bin o a b) σ h) := evT_bin
@[simp] theorem q_evE_neg {a : Ex} : evE C (.neg a) σ h = ((evE C a σ h).bind fun x h => match x with
    | .int i => .ok (.int (-i)) h
    | _ => .st) := evE_neg
@[simp] theorem q_evT_neg {a : Ex} : evT C (.neg a) σ h = truR (evE C (.neg a) σ h) := evT_neg
@[simp] theorem q_evE_cmp {o : CO} {a : Ex} {b : Ex} : evE C (.cmp o a b) σ h = ((evE C a σ h).bind fun x h => (evE C b σ h).bind fun y h => lift h (cmpW o x y h)) := evE_cmp
@[simp] theorem q_evT_cmp {o : CO} {a : Ex} {b : Ex} : evT C (.cmp o a b) σ h = ((evE C a σ h).bind fun x h => (evE C b σ h).bind fun y h => match cmpW o x y h with
    | some t => .ok t h
    | none => .st) := evT_cmp
@[simp] theorem q_evE_cmp2 {o : CO} {p : CO} {a : Ex} {b : Ex} {c : Ex} : evE C (.cmp2 o p a b c) σ h = ((evE C a σ h).bind fun x h => (evE C b σ h).bind fun y h => match cmpW o x y h with
    | some true => (evE C c σ h).bind fun z h => lift h (cmpW p y z h)
    | some false => .ok (.bl false) h
    | none => .st) := evE_cmp2
@[simp] theorem q_evT_cmp2 {o : CO} {p : CO} {a : Ex} {b : Ex} {c : Ex} : evT C (.cmp2 o p a b c) σ h = ((evE C a σ h).bind fun x h => (evE C b σ h).bind fun y h => match cmpW o x y h with
    | some true => (evE C c σ h).bind fun z h => (match cmpW p y z h with
      | some t => .ok t h
      | none => .st)
    | some false => .ok false h
    | none => .st) := evT_cmp2
@[simp] theorem q_evE_and {a : Ex} {b : Ex} : evE C (.and a b) σ h = ((evE C a σ h).bind fun x h => match x with
    | .bl true => evE C b σ h
    | .bl false => .ok (.bl false) h
    | _ => .st) := evE_and
@[simp] theorem q_evT_and {a : Ex} {b : Ex} : evT C (.and a b) σ h = ((evT C a σ h).bind fun t h => match t with
    | true => evT C b σ h
    | false => .ok false h) := evT_and
@[simp] theorem q_evE_or {a : Ex} {b : Ex} : evE C (.or a b) σ h = ((evE C a σ h).bind fun x h => match x with
    | .bl false => evE C b σ h
    | .bl true => .ok (.bl true) h
    | _ => .st) := evE_or
@[simp] theorem q_evT_or {a : Ex} {b : Ex} : evT C (.or a b) σ h = ((evT C a σ h).bind fun t h => match t with
    | true => .ok true h
    | false => evT C b σ h) := evT_or
@[simp] theorem q_evE_not {a : Ex} : evE C (.not a) σ h = ((evE C a σ h).bind fun x h => match truW x h with
    | some t => .ok (.bl (!t)) h
    | none => .st) := evE_not
@[simp] theorem q_evT_not {a : Ex} : evT C (.not a) σ h = ((evT C a σ h).bind fun t h => .ok (!t) h) := evT_not
@[simp] theorem q_evE_tup {es : Exs} : evE C (.tup es) σ h = ((evEs C es σ h).bind fun xs h => if xs.length ≤ line then .ok (.tup xs) h else .st) := evE_tup
@[simp] theorem q_evT_tup {es : Exs} : evT C (.tup es) σ h = truR (evE C (.tup es) σ h) := evT_tup
@[simp] theorem q_evE_lst {es : Exs} : evE C (.lst es) σ h = ((evEs C es σ h).bind fun xs h => newL xs h) := evE_lst
@[simp] theorem q_evT_lst {es : Exs} : evT C (.lst es) σ h = truR (evE C (.lst es) σ h) := evT_lst
@[simp] theorem q_evE_dict {t : Bool} : evE C (.dict t) σ h = (match t with
    | true => new (.dT []) h
    | false => new (.dK []) h) := evE_dict
@[simp] theorem q_evT_dict {t : Bool} : evT C (.dict t) σ h = truR (evE C (.dict t) σ h) := evT_dict
@[simp] theorem q_evE_disp {es : Exs} : evE C (.disp es) σ h = ((evEs C es σ h).bind fun xs h => match dpairs xs [] with
    | some d => if xs.length ≤ 30 then new (.dK d) h else .st
    | none => .st) := evE_disp
@[simp] theorem q_evT_disp {es : Exs} : evT C (.disp es) σ h = truR (evE C (.disp es) σ h) := evT_disp
@[simp] theorem q_evE_attr {a : Ex} {f : Nat} : evE C (.attr a f) σ h = ((evE C a σ h).bind fun x h => match fldW C.bad x f h with
    | some w => .ok w h
    | none => .st) := evE_attr
@[simp] theorem q_evT_attr {a : Ex} {f : Nat} : evT C (.attr a f) σ h = truR (evE C (.attr a f) σ h) := evT_attr
@[simp] theorem q_evE_sub {a : Ex} {b : Ex} : evE C (.sub a b) σ h = ((evE C a σ h).bind fun x h => (evE C b σ h).bind fun y h => match Mn.sub x y h with
    | some w => .ok w h
    | none => .st) := evE_sub
@[simp] theorem q_evT_sub {a : Ex} {b : Ex} : evT C (.sub a b) σ h = truR (evE C (.sub a b) σ h) := evT_sub
@[simp] theorem q_evE_cut {a : Ex} {l : Ex} {u : Ex} : evE C (.cut a l u) σ h = ((evE C a σ h).bind fun x h => (evE C l σ h).bind fun y h => match cutB l y with
    | some lo => (evE C u σ h).bind fun z h => (match cutB u z with
      | some hi => cutV' x lo hi h
      | none => .st)
    | none => .st) := evE_cut
@[simp] theorem q_evT_cut {a : Ex} {l : Ex} {u : Ex} : evT C (.cut a l u) σ h = truR (evE C (.cut a l u) σ h) := evT_cut
@[simp] theorem q_evE_call {f : Nat} {es : Exs} : evE C (.call f es) σ h = (match C.has f with
    | true => (evEs C es σ h).bind fun xs h => C.call f xs h
    | false => .st) := evE_call
@[simp] theorem q_evT_call {f : Nat} {es : Exs} : evT C (.call f es) σ h = truR (evE C (.call f es) σ h) := evT_call
@[simp] theorem q_evE_meth {o : Ex} {m : Nat} {es : Exs} : evE C (.meth o m es) σ h = ((evE C o σ h).bind fun x h => match x with
    | .ref a => (match h.g a with
      | some (.ins c fs) => (match C.meth c m, look m fs with
        | some f, none => (evEs C es σ h).bind fun xs h => C.call f (x :: xs) h
        | _, _ => .st)
      | _ => .st)
    | _ => .st) := evE_meth
@[simp] theorem q_evT_meth {o : Ex} {m : Nat} {es : Exs} : evT C (.meth o m es) σ h = truR (evE C (.meth o m es) σ h) := evT_meth
@[simp] theorem q_evE_make {c : Nat} {es : Exs} : evE C (.make c es) σ h = (match C.init c with
    | some f => (evEs C es σ h).bind fun xs h => (C.call f (.ref h.n :: xs) (h.push (.ins c []))).bind fun r h' => match r with
      | .non => .ok (.ref h.n) h'
      | _ => .st
    | none => .st) := evE_make
@[simp] theorem q_evT_make {c : Nat} {es : Exs} : evT C (.make c es) σ h = truR (evE C (.make c es) σ h) := evT_make
@[simp] theorem q_evE_bi {f : BI} {es : Exs} : evE C (.bi f es) σ h = ((evEs C es σ h).bind fun xs h => Mn.bi f xs h) := evE_bi
@[simp] theorem q_evT_bi {f : BI} {es : Exs} : evT C (.bi f es) σ h = truR (evE C (.bi f es) σ h) := evT_bi
@[simp] theorem q_evE_bm {m : BM} {o : Ex} {es : Exs} : evE C (.bm m o es) σ h = ((evE C o σ h).bind fun x h => match kindW x h with
    | some T => if okM T m then (evEs C es σ h).bind fun xs h => if kindW x h = some T then Mn.bm m x xs h else .st else .st
    | none => .st) := evE_bm
@[simp] theorem q_evT_bm {m : BM} {o : Ex} {es : Exs} : evT C (.bm m o es) σ h = truR (evE C (.bm m o es) σ h) := evT_bm
@[simp] theorem q_evE_comp {e : Ex} {t : Tg} {it : It} {c : Ex} : evE C (.comp e t it c) σ h = (withLock .st R.relk (toLock (evL C it σ h)) h fun h => (evI C it σ h).bind fun p h => (compL p.gd (fun x h => match store t x σ h with
      | some σ => (evT C c σ h).bind fun b h => match b with
        | true => (evE C e σ h).bind fun y h => .ok (some y) h
        | false => .ok none h
      | none => .st) p.xs h).bind fun ys h => newL ys h) := evE_comp
@[simp] theorem q_evT_comp {e : Ex} {t : Tg} {it : It} {c : Ex} : evT C (.comp e t it c) σ h = truR (evE C (.comp e t it c) σ h) := evT_comp
@[simp] theorem q_evEs_nil : evEs C .nil σ h = .ok [] h := evEs_nil
@[simp] theorem q_evEs_cons {e : Ex} {es : Exs} : evEs C (.cons e es) σ h = (evE C e σ h).bind fun x h => (evEs C es σ h).bind fun xs h => .ok (x :: xs) h := evEs_cons
@[simp] theorem q_evI_val {e : Ex} : evI C (.val e) σ h = ((evE C e σ h).bind fun x h => match plan x h with
    | some p => .ok p h
    | none => .st) := evI_val
@[simp] theorem q_evI_rng {a : Ex} {b : Ex} : evI C (.rng a b) σ h = ((evE C a σ h).bind fun x h => (evE C b σ h).bind fun y h => match x, y with
    | .int i, .int j => if -(2 ^ 62) ≤ i ∧ i < 2 ^ 62 ∧ -(2 ^ 62) ≤ j ∧ j < 2 ^ 62 then .ok ⟨rngL (j - i).toNat i, []⟩ h else .st
    | _, _ => .st) := evI_rng
@[simp] theorem q_evI_enum {e : Ex} : evI C (.enum e) σ h = ((evE C e σ h).bind fun x h => match planL x h with
    | some p => .ok { p with xs := enumL 0 p.xs } h
    | none => .st) := evI_enum
@[simp] theorem q_evI_zip {a : Ex} {b : Ex} : evI C (.zip a b) σ h = ((evE C a σ h).bind fun x h => (evE C b σ h).bind fun y h => match planL x h, planL y h with
    | some p, some q => .ok ⟨zipL p.xs q.xs, p.gd ++ q.gd⟩ h
    | _, _ => .st) := evI_zip
@[simp] theorem q_evL_val {e : Ex} : evL C (.val e) σ h = evE C e σ h := evL_val
end

section
variable {h : Hm} {a b : Nat} {o : O}
theorem Hm.put_g : (h.put a o).g b = if b = a then some o else h.g b := rfl
theorem Hm.push_g : (h.push o).g b = if b = h.n then some o else h.g b := rfl
@[simp] theorem Hm.put_n : (h.put a o).n = h.n := rfl
@[simp] theorem Hm.put_lo : (h.put a o).lo = h.lo := rfl
@[simp] theorem Hm.put_lk : (h.put a o).lk = h.lk := rfl
@[simp] theorem Hm.push_n : (h.push o).n = h.n + 1 := rfl
@[simp] theorem Hm.push_lo : (h.push o).lo = h.lo := rfl
@[simp] theorem Hm.push_lk : (h.push o).lk = h.lk := rfl
@[simp] theorem Hm.put_same : (h.put a o).g a = some o := if_pos rfl
@[simp] theorem Hm.push_same : (h.push o).g h.n = some o := if_pos rfl
theorem Hm.push_at (e : b = h.n) : (h.push o).g b = some o := if_pos e
theorem Hm.put_ne (e : b ≠ a) : (h.put a o).g b = h.g b := if_neg e
theorem Hm.push_ne (e : b ≠ h.n) : (h.push o).g b = h.g b := if_neg e
theorem Hm.push_lt (e : b < h.n) : (h.push o).g b = h.g b := if_neg (Nat.ne_of_lt e)
end
section
variable {T : Tx} {d f : Nat} {F : Fn} {ws : List W} {h : Hm}
theorem run_fn (hf : T.fn f = some F) (hp : F.pure = false) (hl : ws.length = F.ps) : run T (d + 1) f ws h = (evSs (T.cf (run T d)) F.body (startW F.ns ws) h).out := by
  rw [run, hf]
  dsimp only
  rw [if_pos hl, hp]
theorem run_pure (hf : T.fn f = some F) (hp : F.pure = true) (hl : ws.length = F.ps) : run T (d + 1) f ws h = (match (evSs (T.cf (run T d)) F.body (startW F.ns ws) { h with lo := h.n }).out with
        | .ok w h' => graft h h' w
        | .ex c [] _ => .ex c [] h
        | _ => .st) := by
  rw [run, hf]
  dsimp only
  rw [if_pos hl, hp]
  all_goals rfl
def R.val : R W → Option W
  | .ok w _ => some w
  | _ => none
def R.lst : R W → Option (Nat × List W)
  | .ok (.ref a) h => (match h.g a with
    | some (.lst xs) => some (a, xs)
    | _ => none)
  | _ => none
theorem run_pure_old (hf : T.fn f = some F) (hp : F.pure = true) (hl : ws.length = F.ps) {w : W} (e : (evSs (T.cf (run T d)) F.body (startW F.ns ws) { h with lo := h.n }).out.val = some w) (ho : old h.n w = true) : run T (d + 1) f ws h = .ok w h := by
  rw [run_pure hf hp hl]
  revert e
  cases (evSs (T.cf (run T d)) F.body (startW F.ns ws) { h with lo := h.n }).out with
  | st => intro e; cases e
  | ex c fs h' => intro e; cases e
  | ok w' h' =>
    intro e
    cases e
    dsimp only
    unfold graft
    rw [ho]
theorem run_pure_new (hf : T.fn f = some F) (hp : F.pure = true) (hl : ws.length = F.ps) {a : Nat} {xs : List W} (e : (evSs (T.cf (run T d)) F.body (startW F.ns ws) { h with lo := h.n }).out.lst = some (a, xs)) (ha : h.n ≤ a) (ho : olds h.n xs = true) :
    run T (d + 1) f ws h = .ok (.ref h.n) (h.push (.lst xs)) := by
  rw [run_pure hf hp hl]
  revert e
  cases (evSs (T.cf (run T d)) F.body (startW F.ns ws) { h with lo := h.n }).out with
  | st => intro e; cases e
  | ex c fs h' => intro e; cases e
  | ok w' h' =>
    intro e
    cases w' with
    | ref b =>
      have e' : (match h'.g b with
        | some (.lst xs) => some (b, xs)
        | _ => none) = some (a, xs) := e
      cases q : h'.g b with
      | none => rw [q] at e'; cases e'
      | some o =>
        cases o with
        | lst ys =>
          rw [q] at e'
          cases e'
          have : old h.n (.ref a) = false := by
            show Nat.blt a h.n = false
            cases q : Nat.blt a h.n with
            | false => rfl
            | true => exact absurd (Nat.le_of_ble_eq_true q) (by omega)
          dsimp only
          unfold graft
          rw [this]
          dsimp only
          rw [q]
          dsimp only
          rw [if_pos ho]
          rfl
        | _ => rw [q] at e'; cases e'
    | _ => cases e
@[simp] theorem R.lst_ok {a : Nat} {h : Hm} : (R.ok (.ref a) h).lst = match h.g a with
    | some (.lst xs) => some (a, xs)
    | _ => none := rfl
@[simp] theorem R.val_ok {w : W} {h : Hm} : (R.ok w h).val = some w := rfl
end
section
variable {gd : List (Nat × List W)} {h : Hm}
theorem compL_all {f : W → Hm → R (Option W)} {g : W → W} (hs : stays h gd = true) : ∀ {xs : List W}, (∀ x ∈ xs, f x h = .ok (some (g x)) h) → compL gd f xs h = .ok (xs.map g) h
  | [], _ => by rw [compL, if_pos hs]; rfl
  | x :: xs, hf => by
    rw [compL, if_pos hs, hf x List.mem_cons_self]
    simp only [R.noex_ok, R.bind_ok]
    rw [compL_all hs fun y hy => hf y (List.mem_cons_of_mem _ hy)]
    rfl
theorem compL_map {ι : Type} {f : W → Hm → R (Option W)} {k g : ι → W} (hs : stays h gd = true) : ∀ {ys : List ι}, (∀ y ∈ ys, f (k y) h = .ok (some (g y)) h) → compL gd f (ys.map k) h = .ok (ys.map g) h
  | [], _ => by rw [List.map_nil, compL, if_pos hs]; rfl
  | y :: ys, hf => by
    rw [List.map_cons, compL, if_pos hs, hf y List.mem_cons_self]
    simp only [R.noex_ok, R.bind_ok]
    rw [compL_map hs fun z hz => hf z (List.mem_cons_of_mem _ hz)]
    rfl
theorem compL_some {f : W → Hm → R (Option W)} {g : W → Option W} (hs : stays h gd = true) : ∀ {xs : List W}, (∀ x ∈ xs, f x h = .ok (g x) h) → compL gd f xs h = .ok (xs.filterMap g) h
  | [], _ => by rw [compL, if_pos hs]; rfl
  | x :: xs, hf => by
    rw [compL, if_pos hs, hf x List.mem_cons_self]
    simp only [R.noex_ok, R.bind_ok]
    rw [compL_some hs fun y hy => hf y (List.mem_cons_of_mem _ hy)]
    simp only [R.bind_ok]
    cases q : g x with
    | none => simp [q]
    | some y => simp [q]
theorem forL_fold {S : Type} (rep : S → List (Option W)) {f : W → List (Option W) → Hm → F} {step : S → W → S} (hs : stays h gd = true) : ∀ {xs : List W} {s : S}, (∀ x ∈ xs, ∀ s, f x (rep s) h = .nx (rep (step s x)) h) → forL gd f xs (rep s) h = .nx (rep (xs.foldl step s)) h
  | [], s, _ => by rw [forL, if_pos hs]; rfl
  | x :: xs, s, hf => by
    rw [forL, if_pos hs, hf x List.mem_cons_self s]
    simp only [F.seq_nx]
    exact forL_fold rep hs (fun y hy => hf y (List.mem_cons_of_mem _ hy))
theorem forL_map {ι S : Type} {k : ι → W} (rep : S → List (Option W)) {f : W → List (Option W) → Hm → F} {step : S → ι → S} (hs : stays h gd = true) : ∀ {ys : List ι} {s : S}, (∀ y ∈ ys, ∀ s, f (k y) (rep s) h = .nx (rep (step s y)) h) → forL gd f (ys.map k) (rep s) h = .nx (rep (ys.foldl step s)) h
  | [], s, _ => by rw [List.map_nil, forL, if_pos hs]; rfl
  | y :: ys, s, hf => by
    rw [List.map_cons, forL, if_pos hs, hf y List.mem_cons_self s]
    simp only [F.seq_nx]
    exact forL_map rep hs (fun z hz => hf z (List.mem_cons_of_mem _ hz))
theorem forL_inv {f : W → List (Option W) → Hm → F} (I : List W → List (Option W) → Hm → Prop) (hst : ∀ xs σ h, I xs σ h → stays h gd = true) {P : F → Prop} (he : ∀ σ h, I [] σ h → P (.nx σ h)) (hstep : ∀ x xs σ h, I (x :: xs) σ h → (∃ σ' h', f x σ h = .nx σ' h' ∧ I xs σ' h') ∨ (∃ w h', f x σ h = .rt w h' ∧ P (.rt w h'))) :
    ∀ {xs : List W} {σ : List (Option W)} {h : Hm}, I xs σ h → P (forL gd f xs σ h)
  | [], σ, h, i => by rw [forL, if_pos (hst _ _ _ i)]; exact he _ _ i
  | x :: xs, σ, h, i => by
    rw [forL, if_pos (hst _ _ _ i)]
    rcases hstep _ _ _ _ i with ⟨σ', h', e, i'⟩ | ⟨w, h', e, p⟩
    · rw [e]
      exact forL_inv I hst he hstep i'
    · rw [e]
      exact p
theorem whileL_true {c : List (Option W) → Hm → R Bool} {b : List (Option W) → Hm → F} {n m : Nat} {σ σ2 : List (Option W)} {h h1 h2 : Hm} (e : n = m + 1) (hc : c σ h = .ok true h1) (hb : b σ h1 = .nx σ2 h2) : whileL c b n σ h = whileL c b m σ2 h2 := by
  subst e
  rw [whileL, hc]
  simp only [R.fl_ok]
  rw [hb]
  rfl
theorem whileL_false {c : List (Option W) → Hm → R Bool} {b : List (Option W) → Hm → F} {n m : Nat} {σ : List (Option W)} {h h1 : Hm} (e : n = m + 1) (hc : c σ h = .ok false h1) : whileL c b n σ h = .nx σ h1 := by
  subst e
  rw [whileL, hc]
  rfl
theorem whileL_inv {c : List (Option W) → Hm → R Bool} {b : List (Option W) → Hm → F} (I : Nat → List (Option W) → Hm → Prop) {P : F → Prop}
    (hstep : ∀ m σ h, I m σ h → (∃ h', c σ h = .ok false h' ∧ P (.nx σ h')) ∨ (∃ h1, c σ h = .ok true h1 ∧ ∃ σ2 h2 m', b σ h1 = .nx σ2 h2 ∧ m' < m ∧ I m' σ2 h2)) :
    ∀ {n m : Nat} {σ : List (Option W)} {h : Hm}, m < n → I m σ h → P (whileL c b n σ h)
  | 0, _, _, _, hm, _ => absurd hm (by omega)
  | n + 1, m, σ, h, hm, i => by
    rw [whileL]
    rcases hstep m σ h i with ⟨h', e, p⟩ | ⟨h1, e, σ2, h2, m', e2, lt, i'⟩
    · rw [e]; exact p
    · rw [e]
      simp only [R.fl_ok]
      rw [e2]
      exact whileL_inv I hstep (by omega) i'
end
end Mn
namespace Mn
open PySem L2
section
variable {h : Hm} {i j : Int} {s t : Str} {xs ys : List W}
@[simp] theorem w_add : binW .add (.int i) (.int j) h = .ok (.int (i + j)) h := rfl
@[simp] theorem w_sub : binW .sub (.int i) (.int j) h = .ok (.int (i - j)) h := rfl
theorem w_mul (e : i.natAbs.log2 + j.natAbs.log2 < 1000000) : binW .mul (.int i) (.int j) h = .ok (.int (i * j)) h := if_pos e
theorem w_mod (e : 0 < j) : binW .mod (.int i) (.int j) h = .ok (.int (i % j)) h := if_pos e
theorem w_fdiv (e : 0 < j ∧ j.natAbs.log2 < 9000) : binW .fdiv (.int i) (.int j) h = .ok (.int (i / j)) h := if_pos e
@[simp] theorem w_lt : cmpW .lt (.int i) (.int j) h = some (decide (i < j)) := rfl
@[simp] theorem w_le : cmpW .le (.int i) (.int j) h = some (decide (i ≤ j)) := rfl
@[simp] theorem w_gt : cmpW .gt (.int i) (.int j) h = some (decide (j < i)) := rfl
@[simp] theorem w_ge : cmpW .ge (.int i) (.int j) h = some (decide (j ≤ i)) := rfl
@[simp] theorem w_eq : cmpW .eq (.int i) (.int j) h = some (decide (i = j)) := rfl
@[simp] theorem w_ne : cmpW .ne (.int i) (.int j) h = some (!decide (i = j)) := rfl
@[simp] theorem w_eqs : cmpW .eq (.str s) (.str t) h = some (decide (s = t)) := rfl
@[simp] theorem w_nes : cmpW .ne (.str s) (.str t) h = some (!decide (s = t)) := rfl
@[simp] theorem w_isn_ref {a : Nat} : cmpW .isn (.ref a) .non h = some false := rfl
@[simp] theorem w_isn_non : cmpW .isn .non .non h = some true := rfl
@[simp] theorem w_isn_tup : cmpW .isn (.tup xs) .non h = some false := rfl
@[simp] theorem w_isn_int : cmpW .isn (.int i) .non h = some false := rfl
@[simp] theorem w_isn_str : cmpW .isn (.str s) .non h = some false := rfl
@[simp] theorem tru_bl {b : Bool} : truW (.bl b) h = some b := rfl
@[simp] theorem tru_non : truW .non h = some false := rfl
@[simp] theorem truR_ok {x : W} : truR (.ok x h) = match truW x h with
  | some t => .ok t h
  | none => .st := rfl
@[simp] theorem lift_some {b : Bool} : lift h (some b) = .ok (.bl b) h := rfl
@[simp] theorem bi_max2 : bi .max [.int i, .int j] h = .ok (.int (if j > i then j else i)) h := rfl
@[simp] theorem bi_min2 : bi .min [.int i, .int j] h = .ok (.int (if j < i then j else i)) h := rfl
@[simp] theorem bi_int : bi .int [.int i] h = .ok (.int i) h := rfl
@[simp] theorem bi_intb {b : Bool} : bi .int [.bl b] h = .ok (.int (if b then 1 else 0)) h := rfl
@[simp] theorem bi_abs : bi .abs [.int i] h = .ok (.int (if i < 0 then -i else i)) h := rfl
@[simp] theorem bi_tup_tup : bi .tuple [.tup xs] h = .ok (.tup xs) h := rfl
@[simp] theorem len_tup : bi .len [.tup xs] h = .ok (.int xs.length) h := rfl
@[simp] theorem len_klst : bi .len [.klst xs] h = .ok (.int xs.length) h := rfl
@[simp] theorem len_ktup : bi .len [.ktup xs] h = .ok (.int xs.length) h := rfl
theorem len_ref {a : Nat} (e : h.g a = some (.lst xs)) : bi .len [.ref a] h = .ok (.int xs.length) h := by
  simp [bi, lenW, e]
theorem new_eq {o : O} : new o h = .ok (.ref h.n) (h.push o) := rfl
theorem newL_eq (e : xs.length ≤ line) : newL xs h = .ok (.ref h.n) (h.push (.lst xs)) := if_pos e
theorem fld_eq {bad : Nat → Nat → Bool} {a c f : Nat} {fs : List (Nat × W)} (e : h.g a = some (.ins c fs)) (b : bad c f = false) : fldW bad (.ref a) f h = look f fs := by
  simp [fldW, e, b]
theorem kind_ref {a : Nat} (e : h.g a = some (.lst xs)) : kindW (.ref a) h = some .list := by
  simp [kindW, e]
theorem app_eq {a : Nat} {x : W} (e : h.g a = some (.lst xs)) (hl : h.lo ≤ a) (hx : xs.length < line) : bm .append (.ref a) [x] h = .ok .non (h.put a (.lst (xs ++ [x]))) := by
  simp only [bm, e, setL]
  rw [if_pos ⟨hl, by simp; omega⟩]
end
section
variable {h h0 : Hm} {a : Nat} {x : W} {xs : List W} {o o' : O}
theorem put_push : (h0.push o).put h0.n o' = h0.push o' := by
  unfold Hm.put Hm.push
  congr 1
  funext b
  dsimp only
  by_cases q : b = h0.n
  · rw [if_pos q, if_pos q]
  · rw [if_neg q, if_neg q, if_neg q]
theorem put_put : (h0.put a o).put a o' = h0.put a o' := by
  unfold Hm.put
  congr 1
  funext b
  dsimp only
  by_cases q : b = a
  · rw [if_pos q, if_pos q]
  · rw [if_neg q, if_neg q, if_neg q]
theorem app_new (e : a = h0.n) (hlo : h0.lo ≤ h0.n) (hx : xs.length < 1000) : bm .append (.ref a) [x] (h0.push (.lst xs)) = .ok .non (h0.push (.lst (xs ++ [x]))) := by
  subst e
  rw [app_eq (xs := xs) Hm.push_same hlo (by unfold line; omega), put_push]
end
def Has (h : Hm) (cs : List (Nat × O)) : Prop := (cs.map (·.1)).Nodup ∧ ∀ c, c ∈ cs → c.1 < h.n ∧ h.g c.1 = some c.2
structure Fr (A : List Nat) (h h' : Hm) : Prop where
  n : h.n ≤ h'.n
  lo : h'.lo = h.lo
  lk : h'.lk = h.lk
  g : ∀ a, a < h.n → a ∉ A → h'.g a = h.g a
structure Upd (h h' : Hm) (cs cs' : List (Nat × O)) : Prop where
  has : Has h' cs'
  fr : Fr (cs.map (·.1)) h h'
  new : ∀ c, c ∈ cs' → c.1 ∈ cs.map (·.1) ∨ h.n ≤ c.1
section
variable {h h' h'' : Hm} {cs cs' ds fs : List (Nat × O)} {a : Nat} {o : O} {A B : List Nat}
theorem Has.get (x : Has h cs) (m : (a, o) ∈ cs) : h.g a = some o := (x.2 _ m).2
theorem Has.lt (x : Has h cs) (m : (a, o) ∈ cs) : a < h.n := (x.2 _ m).1
theorem Has.perm (x : Has h cs) (p : cs.Perm ds) : Has h ds := ⟨(p.map (·.1)).nodup_iff.mp x.1, fun c m => x.2 c (p.mem_iff.mpr m)⟩
theorem Has.left (x : Has h (cs ++ ds)) : Has h cs := ⟨by
  have z := x.1
  rw [List.map_append] at z
  exact (List.nodup_append.mp z).1, fun c m => x.2 c (List.mem_append_left _ m)⟩
theorem Has.right (x : Has h (cs ++ ds)) : Has h ds := ⟨by
  have z := x.1
  rw [List.map_append] at z
  exact (List.nodup_append.mp z).2.1, fun c m => x.2 c (List.mem_append_right _ m)⟩
theorem Has.nil : Has h [] := ⟨List.nodup_nil, fun _ m => by cases m⟩
theorem Fr.refl : Fr A h h := ⟨Nat.le_refl _, rfl, rfl, fun _ _ _ => rfl⟩
theorem Fr.trans (x : Fr A h h') (y : Fr B h' h'') (s : ∀ b, b ∈ B → b ∈ A ∨ h.n ≤ b) : Fr A h h'' :=
  ⟨Nat.le_trans x.n y.n, y.lo.trans x.lo, y.lk.trans x.lk, fun a ha hm => (y.g a (Nat.lt_of_lt_of_le ha x.n) fun q => (s a q).elim hm (fun z => absurd ha (by omega))).trans (x.g a ha hm)⟩
theorem Fr.mono (x : Fr A h h') (s : ∀ b, b ∈ A → b ∈ B) : Fr B h h' := ⟨x.n, x.lo, x.lk, fun a ha hm => x.g a ha fun q => hm (s a q)⟩
theorem Has.keep (x : Has h cs) (y : Fr A h h') (d : ∀ c, c ∈ cs → c.1 ∉ A) : Has h' cs := ⟨x.1, fun c m => ⟨Nat.lt_of_lt_of_le (x.2 c m).1 y.n, (y.g _ (x.2 c m).1 (d c m)).trans (x.2 c m).2⟩⟩
theorem nodup_app {α : Type} {l r : List α} (hl : l.Nodup) (hr : r.Nodup) (d : ∀ x, x ∈ l → x ∉ r) : (l ++ r).Nodup := List.nodup_append.mpr ⟨hl, hr, fun a ha b hb e => d a ha (by rw [e]; exact hb)⟩
theorem Upd.frame (u : Upd h h' cs cs') (x : Has h (cs ++ fs)) : Upd h h' (cs ++ fs) (cs' ++ fs) := by
  have nd := x.1
  rw [List.map_append] at nd
  obtain ⟨n1, n2, n3⟩ := List.nodup_append.mp nd
  have dis : ∀ c, c ∈ fs → c.1 ∉ cs.map (·.1) := fun c m q => n3 c.1 q c.1 (List.mem_map.mpr ⟨c, m, rfl⟩) rfl
  refine ⟨⟨?_, fun c m => ?_⟩, ?_, fun c m => ?_⟩
  · rw [List.map_append]
    refine nodup_app u.has.1 n2 fun b hb hr => ?_
    obtain ⟨c, hc, rfl⟩ := List.mem_map.mp hb
    obtain ⟨e, he, q⟩ := List.mem_map.mp hr
    rcases u.new c hc with z | z
    · exact dis e he (by rw [q]; exact z)
    · have := (x.right.2 e he).1
      rw [q] at this
      omega
  · rcases List.mem_append.mp m with m | m
    · exact u.has.2 c m
    · exact (x.right.keep u.fr dis).2 c m
  · rw [List.map_append]
    exact u.fr.mono fun b hb => List.mem_append_left _ hb
  · rw [List.map_append]
    rcases List.mem_append.mp m with m | m
    · rcases u.new c m with z | z
      · exact .inl (List.mem_append_left _ z)
      · exact .inr z
    · exact .inl (List.mem_append_right _ (List.mem_map.mpr ⟨c, m, rfl⟩))
theorem Upd.perm (u : Upd h h' cs cs') (p : cs.Perm ds) (q : cs'.Perm fs) : Upd h h' ds fs :=
  ⟨u.has.perm q, u.fr.mono fun b hb => (p.map (·.1)).mem_iff.mp hb, fun c m => (u.new c (q.mem_iff.mpr m)).imp (fun z => (p.map (·.1)).mem_iff.mp z) id⟩
theorem Upd.trans (u : Upd h h' cs cs') (v : Upd h' h'' cs' ds) : Upd h h'' cs ds :=
  ⟨v.has, u.fr.trans v.fr fun b hb => by
    obtain ⟨c, m, rfl⟩ := List.mem_map.mp hb
    exact u.new c m, fun c m => by
    rcases v.new c m with z | z
    · obtain ⟨e, me, q⟩ := List.mem_map.mp z
      rw [← q]
      exact u.new e me
    · exact .inr (Nat.le_trans u.fr.n z)⟩
theorem Upd.refl (x : Has h cs) : Upd h h cs cs := ⟨x, Fr.refl, fun c m => .inl (List.mem_map.mpr ⟨c, m, rfl⟩)⟩
theorem Upd.push (x : Has h cs) : Upd h (h.push o) cs cs := ⟨⟨x.1, fun c m => ⟨Nat.lt_succ_of_lt (x.2 c m).1, (Hm.push_lt (x.2 c m).1).trans (x.2 c m).2⟩⟩, ⟨Nat.le_succ _, rfl, rfl, fun a ha _ => Hm.push_lt ha⟩, fun c m => .inl (List.mem_map.mpr ⟨c, m, rfl⟩)⟩
theorem Upd.add (x : Has h cs) : Upd h (h.push o) cs ((h.n, o) :: cs) := ⟨⟨by
  rw [List.map_cons, List.nodup_cons]
  refine ⟨fun q => ?_, x.1⟩
  obtain ⟨c, m, e⟩ := List.mem_map.mp q
  have := (x.2 c m).1
  have e' : c.1 = h.n := e
  omega, fun c m => by
  rcases List.mem_cons.mp m with rfl | m
  · exact ⟨Nat.lt_succ_self _, Hm.push_same⟩
  · exact (Upd.push x).has.2 c m⟩, (Upd.push x).fr, fun c m => by
  rcases List.mem_cons.mp m with rfl | m
  · exact .inr (Nat.le_refl _)
  · exact .inl (List.mem_map.mpr ⟨c, m, rfl⟩)⟩
theorem Upd.put {o' : O} (x : Has h ((a, o) :: cs)) : Upd h (h.put a o') ((a, o) :: cs) ((a, o') :: cs) := by
  have nd := x.1
  rw [List.map_cons, List.nodup_cons] at nd
  refine ⟨⟨?_, fun c m => ?_⟩, ⟨Nat.le_refl _, rfl, rfl, fun b hb hm => Hm.put_ne fun e => hm (by rw [e]; exact List.mem_cons_self)⟩, fun c m => ?_⟩
  · rw [List.map_cons, List.nodup_cons]
    exact nd
  · rcases List.mem_cons.mp m with rfl | m
    · exact ⟨(x.2 (a, o) List.mem_cons_self).1, Hm.put_same⟩
    · have y := x.2 c (List.mem_cons_of_mem _ m)
      exact ⟨y.1, (Hm.put_ne fun e => nd.1 (List.mem_map.mpr ⟨c, m, e⟩)).trans y.2⟩
  · rcases List.mem_cons.mp m with rfl | m
    · exact .inl List.mem_cons_self
    · exact .inl (List.mem_map.mpr ⟨c, List.mem_cons_of_mem _ m, rfl⟩)
end
end Mn
namespace Mn
open PySem L2
section
variable {h : Hm} {o : O} {a j' : Nat} {x y k w dd : W} {xs ys ws : List W} {c f : Nat} {s t : Str} {i j : Int}
theorem u_rdL : rdL (.ref a) h = match h.g a with
    | some (.lst xs) => some xs
    | _ => none := rfl
theorem u_rdK : rdL (.klst xs) h = some xs := rfl
theorem u_seqR : seqW (.ref a) h = rdL (.ref a) h := rfl
theorem u_seqT : seqW (.tup xs) h = some xs := rfl
theorem u_len : bi .len [x] h = match lenW x h with
    | some n => .ok (.int n) h
    | none => .st := rfl
theorem u_lenR : lenW (.ref a) h = match h.g a with
    | some (.lst xs) => some xs.length
    | some (.dK kvs) => some kvs.length
    | some (.dT kvs) => some kvs.length
    | _ => none := rfl
theorem u_lenT : lenW (.tup xs) h = some xs.length := rfl
theorem u_lenKT : lenW (.ktup xs) h = some xs.length := rfl
theorem u_lenKL : lenW (.klst xs) h = some xs.length := rfl
theorem u_listrev : bi .listrev [x] h = match rdL x h with
    | some xs => new (.lst xs.reverse) h
    | none => .st := rfl
theorem u_tupR : bi .tuple [.ref a] h = match rdL (.ref a) h with
    | some xs => .ok (.tup xs) h
    | none => .st := rfl
theorem u_sum : bi .sum [x] h = match (rdL x h).bind intsL with
    | some is => .ok (.int is.sum) h
    | _ => .st := rfl
theorem u_all : bi .all [x] h = match (rdL x h).bind blsL with
    | some bs => .ok (.bl (bs.all id)) h
    | _ => .st := rfl
theorem u_listR : bi .list [.ref a] h = match h.g a with
      | some (.lst xs) => new (.lst xs) h
      | some (.dK kvs) => new (.lst (kvs.map fun kv => wOf kv.1)) h
      | some (.dT kvs) => new (.lst (kvs.map fun kv => .tup (kv.1.map wOf))) h
      | _ => .st := rfl
theorem u_sorted : bi .sorted [x] h = match (rdL x h).bind (sortW h) with
    | some ys => new (.lst ys) h
    | none => .st := rfl
theorem u_min1 : bi .min [.tup xs] h = match intsL xs with
    | some (i :: is) => .ok (.int (is.foldl min i)) h
    | _ => .st := rfl
theorem u_max1 : bi .max [.tup xs] h = match intsL xs with
    | some (i :: is) => .ok (.int (is.foldl max i)) h
    | _ => .st := rfl
theorem u_app : bm .append (.ref a) [x] h = match h.g a with
      | some (.lst xs) => setL h a (xs ++ [x]) .non
      | _ => .st := rfl
theorem u_extT : bm .extend (.ref a) [.tup ys] h = match h.g a with
      | some (.lst xs) => setL h a (xs ++ ys) .non
      | _ => .st := by
  show (match h.g a, some ys with
      | some (.lst xs), some ys => if kst (.tup ys) then Mn.R.st else setL h a (xs ++ ys) .non
      | _, _ => Mn.R.st) = _
  cases h.g a with
  | none => rfl
  | some o => cases o <;> rfl
theorem u_setL (h1 : h.lo ≤ a) (h2 : xs.length ≤ line) : setL h a xs w = .ok w (h.put a (.lst xs)) := if_pos ⟨h1, h2⟩
theorem u_setD {o : O} (h1 : h.lo ≤ a) (h2 : a ∉ h.lk) : setD h a o w = .ok w (h.put a o) := if_pos ⟨h1, h2⟩
theorem u_isin : cmpW .isin x y h = inW x y h := rfl
theorem u_notin : cmpW .notin x y h = (inW x y h).map (!·) := rfl
theorem u_inR : inW x (.ref a) h = match h.g a with
    | some (.lst xs) => inL h true x xs
    | some (.ins _ _) => none
    | some _ => (dget (.ref a) x h).map Option.isSome
    | none => none := rfl
theorem u_dgetR : dget (.ref a) k h = match h.g a, k with
    | some (.dK kvs), k => (keyOf k).map fun k => look k kvs
    | some (.dT kvs), .tup ks => (keysOf ks).map fun k => look k kvs
    | _, _ => none := rfl
theorem u_subR : Mn.sub (.ref a) y h = match h.g a with
    | some (.lst xs) => (match y with
      | .int i => (ixn xs.length i).bind fun j => xs[j]?
      | _ => none)
    | some _ => (dget (.ref a) y h).bind id
    | none => none := rfl
theorem u_subT : Mn.sub (.tup xs) (.int i) h = (ixn xs.length i).bind fun j => xs[j]? := rfl
theorem u_subKT : Mn.sub (.ktup xs) (.int i) h = (ixn xs.length i).bind fun j => xs[j]? := rfl
theorem u_cutT {lo hi : Option Int} : cutV' (.tup xs) lo hi h = .ok (.tup (cut xs lo hi)) h := rfl
theorem u_cutR {lo hi : Option Int} : cutV' (.ref a) lo hi h = match rdL (.ref a) h with
    | some xs => new (.lst (cut xs lo hi)) h
    | none => .st := rfl
theorem u_catR {b : Nat} : binW .add (.ref a) (.ref b) h = match h.g a, h.g b with
      | some (.lst xs), some (.lst ys) => newL (xs ++ ys) h
      | _, _ => .st := rfl
theorem u_sett : sett (.ref a) k w h = match h.g a with
    | some (.lst xs) => (match k with
      | .int i => (match ixn xs.length i with
        | some j => setL h a (xs.set j w) .non
        | none => .st)
      | _ => .st)
    | some (.dK kvs) => (match keyOf k with
      | some k => if kvs.length < line then setD h a (.dK (putD k w kvs)) .non else .st
      | none => .st)
    | some (.dT kvs) => (match k with
      | .tup ks => (match keysOf ks with
        | some k => if kvs.length < line then setD h a (.dT (putD k w kvs)) .non else .st
        | none => .st)
      | _ => .st)
    | _ => .st := rfl
theorem u_dpop : bm .pop (.ref a) [k] h = match h.g a with
      | some (.lst xs) => (match k with
        | .int 0 => (match xs with
          | x :: xs => setL h a xs x
          | [] => .st)
        | _ => .st)
      | some (.dK kvs) => (match keyOf k with
        | some k => (match look k kvs with
          | some w => setD h a (.dK (dropD k kvs)) w
          | none => .st)
        | none => .st)
      | _ => .st := rfl
@[simp] theorem newO : new o h = .ok (.ref h.n) (h.push o) := rfl
theorem u_fldW {bad : Nat → Nat → Bool} : fldW bad (.ref a) f h = match h.g a with
    | some (.ins c fs) => if bad c f then none else look f fs
    | _ => none := rfl
@[simp] theorem look_nil {κ : Type} [DecidableEq κ] {k : κ} : look k [] = none := rfl
@[simp] theorem look_cons {κ : Type} [DecidableEq κ] {k j : κ} {w : W} {r : List (κ × W)} : look k ((j, w) :: r) = if j = k then some w else look k r := rfl
@[simp] theorem putF_nil : putF f w [] = [(f, w)] := rfl
@[simp] theorem putF_cons {r : List (Nat × W)} : putF f w ((j', x) :: r) = if j' = f then (j', w) :: r else (j', x) :: putF f w r := rfl
@[simp] theorem toLock_st : toLock Mn.R.st = none := rfl
theorem toLock_ref : toLock (.ok (.ref a) h) = if isD (h.g a) then some a else none := rfl
@[simp] theorem toLock_tup : toLock (.ok (.tup xs) h) = none := rfl
@[simp] theorem toLock_ktup : toLock (.ok (.ktup xs) h) = none := rfl
@[simp] theorem toLock_klst : toLock (.ok (.klst xs) h) = none := rfl
@[simp] theorem toLock_str : toLock (.ok (.str s) h) = none := rfl
@[simp] theorem isD_lst : isD (some (.lst xs)) = false := rfl
@[simp] theorem isD_ins {fs : List (Nat × W)} : isD (some (.ins c fs)) = false := rfl
@[simp] theorem withLock_none {β : Type} {st : β} {rl : List Nat → β → β} {g : Hm → β} : withLock st rl none h g = g h := rfl
@[simp] theorem evL_rng {C : Cf} {a b : Ex} {σ : List (Option W)} : evL C (.rng a b) σ h = R.st := rfl
@[simp] theorem evL_enum {C : Cf} {a : Ex} {σ : List (Option W)} : evL C (.enum a) σ h = .st := rfl
@[simp] theorem evL_zip {C : Cf} {a b : Ex} {σ : List (Option W)} : evL C (.zip a b) σ h = .st := rfl
@[simp] theorem store_one {i : Nat} {σ : List (Option W)} : store (.one i) w σ h = some (σ.set i (some w)) := rfl
theorem store_row {is : List Nat} {σ : List (Option W)} : store (.row is) (.tup ws) σ h = if ws.length = is.length then some (setSlots is ws σ) else none := rfl
@[simp] theorem plan_tup : plan (.tup xs) h = some ⟨xs, []⟩ := rfl
@[simp] theorem plan_ktup : plan (.ktup xs) h = some ⟨xs, []⟩ := rfl
@[simp] theorem plan_klst : plan (.klst xs) h = some ⟨xs, []⟩ := rfl
@[simp] theorem plan_str : plan (.str s) h = some ⟨strW s, []⟩ := rfl
theorem plan_lst (e : h.g a = some (.lst xs)) : plan (.ref a) h = some ⟨xs, [(a, xs)]⟩ := by
  simp [plan, planL, e]
theorem planL_lst (e : h.g a = some (.lst xs)) : planL (.ref a) h = some ⟨xs, [(a, xs)]⟩ := by
  simp [planL, e]
@[simp] theorem kind_str : kindW (.str s) h = some .str := rfl
theorem u_kindR : kindW (.ref a) h = match h.g a with
    | some (.lst _) => some .list
    | some (.dK _) => some .dict
    | some (.dT _) => some .dict
    | _ => none := rfl
@[simp] theorem ok_list_append : okM .list .append = true := rfl
@[simp] theorem ok_list_extend : okM .list .extend = true := rfl
@[simp] theorem ok_list_pop : okM .list .pop = true := rfl
@[simp] theorem ok_list_index : okM .list .index = true := rfl
@[simp] theorem ok_dict_pop : okM .dict .pop = true := rfl
@[simp] theorem ok_dict_get : okM .dict .get = true := rfl
@[simp] theorem ok_str_index : okM .str .index = true := rfl
@[simp] theorem ok_str_join : okM .str .join = true := rfl
@[simp] theorem ok_str_split : okM .str .split = true := rfl
@[simp] theorem ok_str_partition : okM .str .partition = true := rfl
@[simp] theorem ok_str_startswith : okM .str .startswith = true := rfl
@[simp] theorem ok_tuple_index : okM .tuple .index = true := rfl
@[simp] theorem asB_bl {b : Bool} : asB (.bl b) h = .ok b h := rfl
end
@[simp] theorem stays_nil {h : Hm} : stays h [] = true := rfl
@[simp] theorem sames_self {ys : List W} : sames ys ys = true := by
  have h : ∀ n, (∀ w : W, sizeOf w < n → W.same w w = true) ∧ (∀ ys : List W, sizeOf ys < n → sames ys ys = true) := by
    intro n
    induction n with
    | zero => exact ⟨fun w hw => absurd hw (by omega), fun w hw => absurd hw (by omega)⟩
    | succ n ih =>
      constructor
      · intro w hw
        cases w with
        | non => rfl
        | bl b => simp [W.same]
        | int i => simp [W.same]
        | str i => simp [W.same]
        | ref a => simp [W.same]
        | tup xs => exact ih.2 xs (by simp at hw; omega)
        | ktup xs => exact ih.2 xs (by simp at hw; omega)
        | klst xs => exact ih.2 xs (by simp at hw; omega)
      · intro ys hy
        cases ys with
        | nil => rfl
        | cons y ys =>
          show (W.same y y && sames ys ys) = true
          rw [ih.1 y (by simp at hy; omega), ih.2 ys (by simp at hy; omega)]
          rfl
  exact (h (sizeOf ys + 1)).2 ys (by omega)
theorem u_stays {h : Hm} {a : Nat} {xs : List W} {r : List (Nat × List W)} : stays h ((a, xs) :: r) = ((match h.g a with
    | some (.lst ys) => sames xs ys
    | _ => false) && stays h r) := rfl
theorem stays_one {h : Hm} {a : Nat} {xs : List W} (e : h.g a = some (.lst xs)) : stays h [(a, xs)] = true := by
  rw [u_stays, e]
  simp
theorem u_planR {h : Hm} {a : Nat} : plan (.ref a) h = match h.g a with
    | some (.dK kvs) => if a ∈ h.lk then some ⟨kvs.map fun kv => wOf kv.1, []⟩ else none
    | some (.dT kvs) => if a ∈ h.lk then some ⟨kvs.map fun kv => .tup (kv.1.map wOf), []⟩ else none
    | _ => planL (.ref a) h := rfl
theorem u_planLR {h : Hm} {a : Nat} : planL (.ref a) h = match h.g a with
    | some (.lst xs) => some ⟨xs, [(a, xs)]⟩
    | _ => none := rfl
@[simp] theorem nlt1 {n : Nat} : (n < n + 1) = True := eq_true (by omega)
@[simp] theorem nle1 {n : Nat} : (n ≤ n + 1) = True := eq_true (by omega)
@[simp] theorem nlt2 {n : Nat} : (n < n + 1 + 1) = True := eq_true (by omega)
@[simp] theorem nle2 {n : Nat} : (n ≤ n + 1 + 1) = True := eq_true (by omega)
@[simp] theorem nlt3 {n : Nat} : (n < n + 1 + 1 + 1) = True := eq_true (by omega)
@[simp] theorem nle3 {n : Nat} : (n ≤ n + 1 + 1 + 1) = True := eq_true (by omega)
@[simp] theorem nlt4 {n : Nat} : (n < n + 1 + 1 + 1 + 1) = True := eq_true (by omega)
@[simp] theorem nle4 {n : Nat} : (n ≤ n + 1 + 1 + 1 + 1) = True := eq_true (by omega)
@[simp] theorem nlt5 {n : Nat} : (n < n + 1 + 1 + 1 + 1 + 1) = True := eq_true (by omega)
@[simp] theorem nle5 {n : Nat} : (n ≤ n + 1 + 1 + 1 + 1 + 1) = True := eq_true (by omega)
@[simp] theorem nlt6 {n : Nat} : (n < n + 1 + 1 + 1 + 1 + 1 + 1) = True := eq_true (by omega)
@[simp] theorem nle6 {n : Nat} : (n ≤ n + 1 + 1 + 1 + 1 + 1 + 1) = True := eq_true (by omega)
@[simp] theorem nlt7 {n : Nat} : (n < n + 1 + 1 + 1 + 1 + 1 + 1 + 1) = True := eq_true (by omega)
@[simp] theorem nle7 {n : Nat} : (n ≤ n + 1 + 1 + 1 + 1 + 1 + 1 + 1) = True := eq_true (by omega)
@[simp] theorem nlt8 {n : Nat} : (n < n + 1 + 1 + 1 + 1 + 1 + 1 + 1 + 1) = True := eq_true (by omega)
@[simp] theorem nle8 {n : Nat} : (n ≤ n + 1 + 1 + 1 + 1 + 1 + 1 + 1 + 1) = True := eq_true (by omega)
@[simp] theorem nlt9 {n : Nat} : (n < n + 1 + 1 + 1 + 1 + 1 + 1 + 1 + 1 + 1) = True := eq_true (by omega)
@[simp] theorem nle9 {n : Nat} : (n ≤ n + 1 + 1 + 1 + 1 + 1 + 1 + 1 + 1 + 1) = True := eq_true (by omega)
@[simp] theorem nlt10 {n : Nat} : (n < n + 1 + 1 + 1 + 1 + 1 + 1 + 1 + 1 + 1 + 1) = True := eq_true (by omega)
@[simp] theorem nle10 {n : Nat} : (n ≤ n + 1 + 1 + 1 + 1 + 1 + 1 + 1 + 1 + 1 + 1) = True := eq_true (by omega)
@[simp] theorem nlt11 {n : Nat} : (n < n + 1 + 1 + 1 + 1 + 1 + 1 + 1 + 1 + 1 + 1 + 1) = True := eq_true (by omega)
@[simp] theorem nle11 {n : Nat} : (n ≤ n + 1 + 1 + 1 + 1 + 1 + 1 + 1 + 1 + 1 + 1 + 1) = True := eq_true (by omega)
@[simp] theorem nlt12 {n : Nat} : (n < n + 1 + 1 + 1 + 1 + 1 + 1 + 1 + 1 + 1 + 1 + 1 + 1) = True := eq_true (by omega)
@[simp] theorem nle12 {n : Nat} : (n ≤ n + 1 + 1 + 1 + 1 + 1 + 1 + 1 + 1 + 1 + 1 + 1 + 1) = True := eq_true (by omega)
@[simp] theorem nn2 {n : Nat} : (n = n + 1 + 1) = False := eq_false (by omega)
@[simp] theorem nm2 {n : Nat} : (n + 1 + 1 = n) = False := eq_false (by omega)
@[simp] theorem nn3 {n : Nat} : (n = n + 1 + 1 + 1) = False := eq_false (by omega)
@[simp] theorem nm3 {n : Nat} : (n + 1 + 1 + 1 = n) = False := eq_false (by omega)
@[simp] theorem nn4 {n : Nat} : (n = n + 1 + 1 + 1 + 1) = False := eq_false (by omega)
@[simp] theorem nm4 {n : Nat} : (n + 1 + 1 + 1 + 1 = n) = False := eq_false (by omega)
@[simp] theorem nn5 {n : Nat} : (n = n + 1 + 1 + 1 + 1 + 1) = False := eq_false (by omega)
@[simp] theorem nm5 {n : Nat} : (n + 1 + 1 + 1 + 1 + 1 = n) = False := eq_false (by omega)
@[simp] theorem nn6 {n : Nat} : (n = n + 1 + 1 + 1 + 1 + 1 + 1) = False := eq_false (by omega)
@[simp] theorem nm6 {n : Nat} : (n + 1 + 1 + 1 + 1 + 1 + 1 = n) = False := eq_false (by omega)
@[simp] theorem nn7 {n : Nat} : (n = n + 1 + 1 + 1 + 1 + 1 + 1 + 1) = False := eq_false (by omega)
@[simp] theorem nm7 {n : Nat} : (n + 1 + 1 + 1 + 1 + 1 + 1 + 1 = n) = False := eq_false (by omega)
@[simp] theorem nn8 {n : Nat} : (n = n + 1 + 1 + 1 + 1 + 1 + 1 + 1 + 1) = False := eq_false (by omega)
@[simp] theorem nm8 {n : Nat} : (n + 1 + 1 + 1 + 1 + 1 + 1 + 1 + 1 = n) = False := eq_false (by omega)
@[simp] theorem nn9 {n : Nat} : (n = n + 1 + 1 + 1 + 1 + 1 + 1 + 1 + 1 + 1) = False := eq_false (by omega)
@[simp] theorem nm9 {n : Nat} : (n + 1 + 1 + 1 + 1 + 1 + 1 + 1 + 1 + 1 = n) = False := eq_false (by omega)
@[simp] theorem nn10 {n : Nat} : (n = n + 1 + 1 + 1 + 1 + 1 + 1 + 1 + 1 + 1 + 1) = False := eq_false (by omega)
@[simp] theorem nm10 {n : Nat} : (n + 1 + 1 + 1 + 1 + 1 + 1 + 1 + 1 + 1 + 1 = n) = False := eq_false (by omega)
@[simp] theorem nn11 {n : Nat} : (n = n + 1 + 1 + 1 + 1 + 1 + 1 + 1 + 1 + 1 + 1 + 1) = False := eq_false (by omega)
@[simp] theorem nm11 {n : Nat} : (n + 1 + 1 + 1 + 1 + 1 + 1 + 1 + 1 + 1 + 1 + 1 = n) = False := eq_false (by omega)
@[simp] theorem nn12 {n : Nat} : (n = n + 1 + 1 + 1 + 1 + 1 + 1 + 1 + 1 + 1 + 1 + 1 + 1) = False := eq_false (by omega)
@[simp] theorem nm12 {n : Nat} : (n + 1 + 1 + 1 + 1 + 1 + 1 + 1 + 1 + 1 + 1 + 1 + 1 = n) = False := eq_false (by omega)
section
variable {h : Hm} {a b : Nat} {o : O} {l : List Nat}
@[simp] theorem lock_push : (h.lock a).push o = (h.push o).lock a := rfl
@[simp] theorem lock_put : (h.lock a).put b o = (h.put b o).lock a := rfl
@[simp] theorem lock_g : (h.lock a).g = h.g := rfl
@[simp] theorem lock_n : (h.lock a).n = h.n := rfl
@[simp] theorem lock_lo : (h.lock a).lo = h.lo := rfl
@[simp] theorem lock_lk : (h.lock a).lk = a :: h.lk := rfl
@[simp] theorem relk_lock : (h.lock a).relk l = h.relk l := rfl
@[simp] theorem relk_push : (h.push o).relk l = (h.relk l).push o := rfl
@[simp] theorem relk_put : (h.put a o).relk l = (h.relk l).put a o := rfl
@[simp] theorem relk_self : h.relk h.lk = h := rfl
@[simp] theorem R.relk_ok {w : W} : R.relk l (.ok w h) = .ok w (h.relk l) := rfl
@[simp] theorem F.relk_nx {σ : List (Option W)} : F.relk l (.nx σ h) = .nx σ (h.relk l) := rfl
@[simp] theorem F.relk_rt {w : W} : F.relk l (.rt w h) = .rt w (h.relk l) := rfl
@[simp] theorem isD_dK {d : List (Key × W)} : isD (some (.dK d)) = true := rfl
@[simp] theorem isD_dT {d : List (List Key × W)} : isD (some (.dT d)) = true := rfl
theorem withLock_some {β : Type} {st : β} {rl : List Nat → β → β} {g : Hm → β} (h1 : a ∉ h.lk) (h2 : a < h.n) (h3 : isD (h.g a) = true) : withLock st rl (some a) h g = rl h.lk (g (h.lock a)) := by
  unfold withLock
  dsimp only
  rw [if_neg h1, if_pos ⟨h2, h3⟩]
end
section
variable {h h0 : Hm} {a b : Nat} {o : O} {A : List Nat}
theorem Fr.push (f : Fr A h0 h) : Fr A h0 (h.push o) := ⟨Nat.le_succ_of_le f.n, f.lo, f.lk, fun b hb hm => (Hm.push_lt (Nat.lt_of_lt_of_le hb f.n)).trans (f.g b hb hm)⟩
theorem Fr.put (f : Fr A h0 h) (ha : a ∈ A ∨ h0.n ≤ a) : Fr A h0 (h.put a o) := ⟨f.n, f.lo, f.lk, fun b hb hm => (Hm.put_ne fun e => by
  subst e
  rcases ha with z | z
  · exact hm z
  · omega).trans (f.g b hb hm)⟩
theorem Upd.of_fr {cs : List (Nat × O)} (x : Has h0 cs) (f : Fr [] h0 h) : Upd h0 h cs cs := ⟨x.keep f fun c _ q => (by cases q), f.mono fun b q => (by cases q), fun c m => .inl (List.mem_map.mpr ⟨c, m, rfl⟩)⟩
end
theorem Upd.mid {h : Hm} {a : Nat} {o o' : O} (pre : List (Nat × O)) {post : List (Nat × O)} (x : Has h (pre ++ (a, o) :: post)) : Upd h (h.put a o') (pre ++ (a, o) :: post) (pre ++ (a, o') :: post) :=
  (Upd.put (x.perm List.perm_middle)).perm List.perm_middle.symm List.perm_middle.symm
@[simp] theorem line_0 : (0 ≤ line) = True := eq_true (by decide)
@[simp] theorem line_1 : (1 ≤ line) = True := eq_true (by decide)
@[simp] theorem line_2 : (2 ≤ line) = True := eq_true (by decide)
@[simp] theorem line_3 : (3 ≤ line) = True := eq_true (by decide)
@[simp] theorem line_4 : (4 ≤ line) = True := eq_true (by decide)
@[simp] theorem line_5 : (5 ≤ line) = True := eq_true (by decide)
@[simp] theorem line_6 : (6 ≤ line) = True := eq_true (by decide)
@[simp] theorem line_7 : (7 ≤ line) = True := eq_true (by decide)
@[simp] theorem line_8 : (8 ≤ line) = True := eq_true (by decide)
@[simp] theorem line_9 : (9 ≤ line) = True := eq_true (by decide)
@[simp] theorem line_10 : (10 ≤ line) = True := eq_true (by decide)
@[simp] theorem line_11 : (11 ≤ line) = True := eq_true (by decide)
end Mn
end
section
set_option Elab.async false
set_option linter.all false
set_option maxRecDepth 100000
namespace Mn
open PySem L2
class Lib1 (T : Tx) : Prop where
  f1 : T.fn 1 = some P.F_look_sign
  f4 : T.fn 4 = some P.F_sign_of
  f5 : T.fn 5 = some P.F_text_signs
  f154 : T.fn 154 = some P.F_letter_of_sign
  f155 : T.fn 155 = some P.F_signs_text
  f6 : T.fn 6 = some P.F_number_signs
  f7 : T.fn 7 = some P.F_signs_number
  f8 : T.fn 8 = some P.F_is_house
  f10 : T.fn 10 = some P.F_look_at_near
  f11 : T.fn 11 = some P.F_look_at_names
  f12 : T.fn 12 = some P.F_made_news
  f21 : T.fn 21 = some P.F_Map___init__
  f22 : T.fn 22 = some P.F_Map_hear
  f24 : T.fn 24 = some P.F_Map_told_back
  f25 : T.fn 25 = some P.F_Map_wires
  f27 : T.fn 27 = some P.F_Map_copy
  f156 : T.fn 156 = some P.F_Reader___init__
  f157 : T.fn 157 = some P.F_Reader_take
  f158 : T.fn 158 = some P.F_Reader_text
  f159 : T.fn 159 = some P.F_Reader_ended
  f28 : T.fn 28 = some P.F_beside
  f29 : T.fn 29 = some P.F_lengths_to
  f30 : T.fn 30 = some P.F_way_of
  f35 : T.fn 35 = some P.F_Writer___init__
  f36 : T.fn 36 = some P.F_Writer_ask_open
  f37 : T.fn 37 = some P.F_Writer_last_free
  f38 : T.fn 38 = some P.F_Writer_write
  f39 : T.fn 39 = some P.F_Writer_close
  f40 : T.fn 40 = some P.F_Writer_body_of
  f41 : T.fn 41 = some P.F_Writer_due
  f42 : T.fn 42 = some P.F_Writer_had
  f43 : T.fn 43 = some P.F_Writer_is_done
  f44 : T.fn 44 = some P.F_Writer_left
  f45 : T.fn 45 = some P.F_Shelf___init__
  f50 : T.fn 50 = some P.F_StreamRow___init__
  f163 : T.fn 163 = some P.F_ReadRow___init__
  f52 : T.fn 52 = some P.F_Desk___init__
  f53 : T.fn 53 = some P.F_Desk_begin
  f54 : T.fn 54 = some P.F_Desk_row_of
  f55 : T.fn 55 = some P.F_Desk_write
  f56 : T.fn 56 = some P.F_Desk_close
  f57 : T.fn 57 = some P.F_Desk_standing
  f58 : T.fn 58 = some P.F_Desk_heard
  f64 : T.fn 64 = some P.F_Desk_unfinished
  f65 : T.fn 65 = some P.F_Desk_is_idle
  f67 : T.fn 67 = some P.F_Desk_send_part
  f68 : T.fn 68 = some P.F_Desk_send_count
  f71 : T.fn 71 = some P.F_Desk_part_came
  f72 : T.fn 72 = some P.F_Desk_had_came
  f75 : T.fn 75 = some P.F_Desk_letter_here
  f77 : T.fn 77 = some P.F_Desk_send_new
  f78 : T.fn 78 = some P.F_Desk_work
  f79 : T.fn 79 = some P.F_are_signs
  f80 : T.fn 80 = some P.F_is_way
  f81 : T.fn 81 = some P.F_made_letter
  f121 : T.fn 121 = some P.F_ask_house
  f132 : T.fn 132 = some P.F_Post___init__
  f133 : T.fn 133 = some P.F_Post_row_tick
  f134 : T.fn 134 = some P.F_Post_enter
  f135 : T.fn 135 = some P.F_Post_own_letter
  f142 : T.fn 142 = some P.F_Post_greet
  f143 : T.fn 143 = some P.F_Post_number
  f144 : T.fn 144 = some P.F_Post_tick
  f145 : T.fn 145 = some P.F_Post_post
  f146 : T.fn 146 = some P.F_Post_came
  f147 : T.fn 147 = some P.F_Post_grew
  f150 : T.fn 150 = some P.F_Post_map_now
  m1_76 : methOf T.meths 1 76 = some 22
  m1_111 : methOf T.meths 1 111 = some 24
  m1_6 : methOf T.meths 1 6 = some 25
  m1_84 : methOf T.meths 1 84 = some 27
  m12_118 : methOf T.meths 12 118 = some 157
  m12_125 : methOf T.meths 12 125 = some 158
  m12_126 : methOf T.meths 12 126 = some 159
  m2_63 : methOf T.meths 2 63 = some 36
  m2_95 : methOf T.meths 2 95 = some 37
  m2_64 : methOf T.meths 2 64 = some 38
  m2_65 : methOf T.meths 2 65 = some 39
  m2_112 : methOf T.meths 2 112 = some 40
  m2_144 : methOf T.meths 2 144 = some 41
  m2_142 : methOf T.meths 2 142 = some 42
  m2_67 : methOf T.meths 2 67 = some 43
  m2_96 : methOf T.meths 2 96 = some 44
  m6_85 : methOf T.meths 6 85 = some 53
  m6_66 : methOf T.meths 6 66 = some 54
  m6_64 : methOf T.meths 6 64 = some 55
  m6_65 : methOf T.meths 6 65 = some 56
  m6_86 : methOf T.meths 6 86 = some 57
  m6_90 : methOf T.meths 6 90 = some 58
  m6_89 : methOf T.meths 6 89 = some 64
  m6_93 : methOf T.meths 6 93 = some 65
  m6_152 : methOf T.meths 6 152 = some 67
  m6_134 : methOf T.meths 6 134 = some 68
  m6_143 : methOf T.meths 6 143 = some 71
  m6_148 : methOf T.meths 6 148 = some 72
  m6_145 : methOf T.meths 6 145 = some 75
  m6_138 : methOf T.meths 6 138 = some 77
  m6_139 : methOf T.meths 6 139 = some 78
  m11_120 : methOf T.meths 11 120 = some 133
  m11_79 : methOf T.meths 11 79 = some 134
  m11_82 : methOf T.meths 11 82 = some 135
  m11_81 : methOf T.meths 11 81 = some 142
  m11_98 : methOf T.meths 11 98 = some 143
  m11_75 : methOf T.meths 11 75 = some 144
  m11_133 : methOf T.meths 11 133 = some 145
  m11_137 : methOf T.meths 11 137 = some 146
  m11_136 : methOf T.meths 11 136 = some 147
  m11_97 : methOf T.meths 11 97 = some 150
  i1 : T.inits.lookup 1 = some 21
  i12 : T.inits.lookup 12 = some 156
  i2 : T.inits.lookup 2 = some 35
  i3 : T.inits.lookup 3 = some 45
  i4 : T.inits.lookup 4 = some 50
  i13 : T.inits.lookup 13 = some 163
  i6 : T.inits.lookup 6 = some 52
  i11 : T.inits.lookup 11 = some 132
  g1_5 : (decide (1 ∈ T.cl) && decide (5 < T.nf) && T.goods.any fun p => decide (p.1 = 1) && decide (p.2 = 5)) = true
  g2_7 : (decide (2 ∈ T.cl) && decide (7 < T.nf) && T.goods.any fun p => decide (p.1 = 2) && decide (p.2 = 7)) = true
  g2_8 : (decide (2 ∈ T.cl) && decide (8 < T.nf) && T.goods.any fun p => decide (p.1 = 2) && decide (p.2 = 8)) = true
  g2_9 : (decide (2 ∈ T.cl) && decide (9 < T.nf) && T.goods.any fun p => decide (p.1 = 2) && decide (p.2 = 9)) = true
  g2_10 : (decide (2 ∈ T.cl) && decide (10 < T.nf) && T.goods.any fun p => decide (p.1 = 2) && decide (p.2 = 10)) = true
  g3_11 : (decide (3 ∈ T.cl) && decide (11 < T.nf) && T.goods.any fun p => decide (p.1 = 3) && decide (p.2 = 11)) = true
  g4_12 : (decide (4 ∈ T.cl) && decide (12 < T.nf) && T.goods.any fun p => decide (p.1 = 4) && decide (p.2 = 12)) = true
  g4_13 : (decide (4 ∈ T.cl) && decide (13 < T.nf) && T.goods.any fun p => decide (p.1 = 4) && decide (p.2 = 13)) = true
  g4_14 : (decide (4 ∈ T.cl) && decide (14 < T.nf) && T.goods.any fun p => decide (p.1 = 4) && decide (p.2 = 14)) = true
  g6_19 : (decide (6 ∈ T.cl) && decide (19 < T.nf) && T.goods.any fun p => decide (p.1 = 6) && decide (p.2 = 19)) = true
  g6_20 : (decide (6 ∈ T.cl) && decide (20 < T.nf) && T.goods.any fun p => decide (p.1 = 6) && decide (p.2 = 20)) = true
  g6_21 : (decide (6 ∈ T.cl) && decide (21 < T.nf) && T.goods.any fun p => decide (p.1 = 6) && decide (p.2 = 21)) = true
  g6_22 : (decide (6 ∈ T.cl) && decide (22 < T.nf) && T.goods.any fun p => decide (p.1 = 6) && decide (p.2 = 22)) = true
  g6_23 : (decide (6 ∈ T.cl) && decide (23 < T.nf) && T.goods.any fun p => decide (p.1 = 6) && decide (p.2 = 23)) = true
  g6_24 : (decide (6 ∈ T.cl) && decide (24 < T.nf) && T.goods.any fun p => decide (p.1 = 6) && decide (p.2 = 24)) = true
  g6_25 : (decide (6 ∈ T.cl) && decide (25 < T.nf) && T.goods.any fun p => decide (p.1 = 6) && decide (p.2 = 25)) = true
  g6_26 : (decide (6 ∈ T.cl) && decide (26 < T.nf) && T.goods.any fun p => decide (p.1 = 6) && decide (p.2 = 26)) = true
  g11_50 : (decide (11 ∈ T.cl) && decide (50 < T.nf) && T.goods.any fun p => decide (p.1 = 11) && decide (p.2 = 50)) = true
  g11_51 : (decide (11 ∈ T.cl) && decide (51 < T.nf) && T.goods.any fun p => decide (p.1 = 11) && decide (p.2 = 51)) = true
  g11_52 : (decide (11 ∈ T.cl) && decide (52 < T.nf) && T.goods.any fun p => decide (p.1 = 11) && decide (p.2 = 52)) = true
  g11_53 : (decide (11 ∈ T.cl) && decide (53 < T.nf) && T.goods.any fun p => decide (p.1 = 11) && decide (p.2 = 53)) = true
  g11_54 : (decide (11 ∈ T.cl) && decide (54 < T.nf) && T.goods.any fun p => decide (p.1 = 11) && decide (p.2 = 54)) = true
  g11_55 : (decide (11 ∈ T.cl) && decide (55 < T.nf) && T.goods.any fun p => decide (p.1 = 11) && decide (p.2 = 55)) = true
  g11_56 : (decide (11 ∈ T.cl) && decide (56 < T.nf) && T.goods.any fun p => decide (p.1 = 11) && decide (p.2 = 56)) = true
  g11_57 : (decide (11 ∈ T.cl) && decide (57 < T.nf) && T.goods.any fun p => decide (p.1 = 11) && decide (p.2 = 57)) = true
  g11_58 : (decide (11 ∈ T.cl) && decide (58 < T.nf) && T.goods.any fun p => decide (p.1 = 11) && decide (p.2 = 58)) = true
  g11_59 : (decide (11 ∈ T.cl) && decide (59 < T.nf) && T.goods.any fun p => decide (p.1 = 11) && decide (p.2 = 59)) = true
  g11_60 : (decide (11 ∈ T.cl) && decide (60 < T.nf) && T.goods.any fun p => decide (p.1 = 11) && decide (p.2 = 60)) = true
  g12_10 : (decide (12 ∈ T.cl) && decide (10 < T.nf) && T.goods.any fun p => decide (p.1 = 12) && decide (p.2 = 10)) = true
  g12_129 : (decide (12 ∈ T.cl) && decide (129 < T.nf) && T.goods.any fun p => decide (p.1 = 12) && decide (p.2 = 129)) = true
  g12_130 : (decide (12 ∈ T.cl) && decide (130 < T.nf) && T.goods.any fun p => decide (p.1 = 12) && decide (p.2 = 130)) = true
  g12_131 : (decide (12 ∈ T.cl) && decide (131 < T.nf) && T.goods.any fun p => decide (p.1 = 12) && decide (p.2 = 131)) = true
  g13_68 : (decide (13 ∈ T.cl) && decide (68 < T.nf) && T.goods.any fun p => decide (p.1 = 13) && decide (p.2 = 68)) = true
  g13_132 : (decide (13 ∈ T.cl) && decide (132 < T.nf) && T.goods.any fun p => decide (p.1 = 13) && decide (p.2 = 132)) = true
section
variable {T : Tx} [L : Lib1 T] {call : Nat → List W → Hm → R W}
@[simp] theorem lib1_h1 : (T.cf call).has 1 = true := by
  show (T.fn 1).isSome = true
  rw [L.f1]
  rfl
@[simp] theorem lib1_h4 : (T.cf call).has 4 = true := by
  show (T.fn 4).isSome = true
  rw [L.f4]
  rfl
@[simp] theorem lib1_h5 : (T.cf call).has 5 = true := by
  show (T.fn 5).isSome = true
  rw [L.f5]
  rfl
@[simp] theorem lib1_h154 : (T.cf call).has 154 = true := by
  show (T.fn 154).isSome = true
  rw [L.f154]
  rfl
@[simp] theorem lib1_h155 : (T.cf call).has 155 = true := by
  show (T.fn 155).isSome = true
  rw [L.f155]
  rfl
@[simp] theorem lib1_h6 : (T.cf call).has 6 = true := by
  show (T.fn 6).isSome = true
  rw [L.f6]
  rfl
@[simp] theorem lib1_h7 : (T.cf call).has 7 = true := by
  show (T.fn 7).isSome = true
  rw [L.f7]
  rfl
@[simp] theorem lib1_h8 : (T.cf call).has 8 = true := by
  show (T.fn 8).isSome = true
  rw [L.f8]
  rfl
@[simp] theorem lib1_h10 : (T.cf call).has 10 = true := by
  show (T.fn 10).isSome = true
  rw [L.f10]
  rfl
@[simp] theorem lib1_h11 : (T.cf call).has 11 = true := by
  show (T.fn 11).isSome = true
  rw [L.f11]
  rfl
@[simp] theorem lib1_h12 : (T.cf call).has 12 = true := by
  show (T.fn 12).isSome = true
  rw [L.f12]
  rfl
@[simp] theorem lib1_h21 : (T.cf call).has 21 = true := by
  show (T.fn 21).isSome = true
  rw [L.f21]
  rfl
@[simp] theorem lib1_h22 : (T.cf call).has 22 = true := by
  show (T.fn 22).isSome = true
  rw [L.f22]
  rfl
@[simp] theorem lib1_h24 : (T.cf call).has 24 = true := by
  show (T.fn 24).isSome = true
  rw [L.f24]
  rfl
@[simp] theorem lib1_h25 : (T.cf call).has 25 = true := by
  show (T.fn 25).isSome = true
  rw [L.f25]
  rfl
@[simp] theorem lib1_h27 : (T.cf call).has 27 = true := by
  show (T.fn 27).isSome = true
  rw [L.f27]
  rfl
@[simp] theorem lib1_h156 : (T.cf call).has 156 = true := by
  show (T.fn 156).isSome = true
  rw [L.f156]
  rfl
@[simp] theorem lib1_h157 : (T.cf call).has 157 = true := by
  show (T.fn 157).isSome = true
  rw [L.f157]
  rfl
@[simp] theorem lib1_h158 : (T.cf call).has 158 = true := by
  show (T.fn 158).isSome = true
  rw [L.f158]
  rfl
@[simp] theorem lib1_h159 : (T.cf call).has 159 = true := by
  show (T.fn 159).isSome = true
  rw [L.f159]
  rfl
@[simp] theorem lib1_h28 : (T.cf call).has 28 = true := by
  show (T.fn 28).isSome = true
  rw [L.f28]
  rfl
@[simp] theorem lib1_h29 : (T.cf call).has 29 = true := by
  show (T.fn 29).isSome = true
  rw [L.f29]
  rfl
@[simp] theorem lib1_h30 : (T.cf call).has 30 = true := by
  show (T.fn 30).isSome = true
  rw [L.f30]
  rfl
@[simp] theorem lib1_h35 : (T.cf call).has 35 = true := by
  show (T.fn 35).isSome = true
  rw [L.f35]
  rfl
@[simp] theorem lib1_h36 : (T.cf call).has 36 = true := by
  show (T.fn 36).isSome = true
  rw [L.f36]
  rfl
@[simp] theorem lib1_h37 : (T.cf call).has 37 = true := by
  show (T.fn 37).isSome = true
  rw [L.f37]
  rfl
@[simp] theorem lib1_h38 : (T.cf call).has 38 = true := by
  show (T.fn 38).isSome = true
  rw [L.f38]
  rfl
@[simp] theorem lib1_h39 : (T.cf call).has 39 = true := by
  show (T.fn 39).isSome = true
  rw [L.f39]
  rfl
@[simp] theorem lib1_h40 : (T.cf call).has 40 = true := by
  show (T.fn 40).isSome = true
  rw [L.f40]
  rfl
@[simp] theorem lib1_h41 : (T.cf call).has 41 = true := by
  show (T.fn 41).isSome = true
  rw [L.f41]
  rfl
@[simp] theorem lib1_h42 : (T.cf call).has 42 = true := by
  show (T.fn 42).isSome = true
  rw [L.f42]
  rfl
@[simp] theorem lib1_h43 : (T.cf call).has 43 = true := by
  show (T.fn 43).isSome = true
  rw [L.f43]
  rfl
@[simp] theorem lib1_h44 : (T.cf call).has 44 = true := by
  show (T.fn 44).isSome = true
  rw [L.f44]
  rfl
@[simp] theorem lib1_h45 : (T.cf call).has 45 = true := by
  show (T.fn 45).isSome = true
  rw [L.f45]
  rfl
@[simp] theorem lib1_h50 : (T.cf call).has 50 = true := by
  show (T.fn 50).isSome = true
  rw [L.f50]
  rfl
@[simp] theorem lib1_h163 : (T.cf call).has 163 = true := by
  show (T.fn 163).isSome = true
  rw [L.f163]
  rfl
@[simp] theorem lib1_h52 : (T.cf call).has 52 = true := by
  show (T.fn 52).isSome = true
  rw [L.f52]
  rfl
@[simp] theorem lib1_h53 : (T.cf call).has 53 = true := by
  show (T.fn 53).isSome = true
  rw [L.f53]
  rfl
@[simp] theorem lib1_h54 : (T.cf call).has 54 = true := by
  show (T.fn 54).isSome = true
  rw [L.f54]
  rfl
@[simp] theorem lib1_h55 : (T.cf call).has 55 = true := by
  show (T.fn 55).isSome = true
  rw [L.f55]
  rfl
@[simp] theorem lib1_h56 : (T.cf call).has 56 = true := by
  show (T.fn 56).isSome = true
  rw [L.f56]
  rfl
@[simp] theorem lib1_h57 : (T.cf call).has 57 = true := by
  show (T.fn 57).isSome = true
  rw [L.f57]
  rfl
@[simp] theorem lib1_h58 : (T.cf call).has 58 = true := by
  show (T.fn 58).isSome = true
  rw [L.f58]
  rfl
@[simp] theorem lib1_h64 : (T.cf call).has 64 = true := by
  show (T.fn 64).isSome = true
  rw [L.f64]
  rfl
@[simp] theorem lib1_h65 : (T.cf call).has 65 = true := by
  show (T.fn 65).isSome = true
  rw [L.f65]
  rfl
@[simp] theorem lib1_h67 : (T.cf call).has 67 = true := by
  show (T.fn 67).isSome = true
  rw [L.f67]
  rfl
@[simp] theorem lib1_h68 : (T.cf call).has 68 = true := by
  show (T.fn 68).isSome = true
  rw [L.f68]
  rfl
@[simp] theorem lib1_h71 : (T.cf call).has 71 = true := by
  show (T.fn 71).isSome = true
  rw [L.f71]
  rfl
@[simp] theorem lib1_h72 : (T.cf call).has 72 = true := by
  show (T.fn 72).isSome = true
  rw [L.f72]
  rfl
@[simp] theorem lib1_h75 : (T.cf call).has 75 = true := by
  show (T.fn 75).isSome = true
  rw [L.f75]
  rfl
@[simp] theorem lib1_h77 : (T.cf call).has 77 = true := by
  show (T.fn 77).isSome = true
  rw [L.f77]
  rfl
@[simp] theorem lib1_h78 : (T.cf call).has 78 = true := by
  show (T.fn 78).isSome = true
  rw [L.f78]
  rfl
@[simp] theorem lib1_h79 : (T.cf call).has 79 = true := by
  show (T.fn 79).isSome = true
  rw [L.f79]
  rfl
@[simp] theorem lib1_h80 : (T.cf call).has 80 = true := by
  show (T.fn 80).isSome = true
  rw [L.f80]
  rfl
@[simp] theorem lib1_h81 : (T.cf call).has 81 = true := by
  show (T.fn 81).isSome = true
  rw [L.f81]
  rfl
@[simp] theorem lib1_h121 : (T.cf call).has 121 = true := by
  show (T.fn 121).isSome = true
  rw [L.f121]
  rfl
@[simp] theorem lib1_h132 : (T.cf call).has 132 = true := by
  show (T.fn 132).isSome = true
  rw [L.f132]
  rfl
@[simp] theorem lib1_h133 : (T.cf call).has 133 = true := by
  show (T.fn 133).isSome = true
  rw [L.f133]
  rfl
@[simp] theorem lib1_h134 : (T.cf call).has 134 = true := by
  show (T.fn 134).isSome = true
  rw [L.f134]
  rfl
@[simp] theorem lib1_h135 : (T.cf call).has 135 = true := by
  show (T.fn 135).isSome = true
  rw [L.f135]
  rfl
@[simp] theorem lib1_h142 : (T.cf call).has 142 = true := by
  show (T.fn 142).isSome = true
  rw [L.f142]
  rfl
@[simp] theorem lib1_h143 : (T.cf call).has 143 = true := by
  show (T.fn 143).isSome = true
  rw [L.f143]
  rfl
@[simp] theorem lib1_h144 : (T.cf call).has 144 = true := by
  show (T.fn 144).isSome = true
  rw [L.f144]
  rfl
@[simp] theorem lib1_h145 : (T.cf call).has 145 = true := by
  show (T.fn 145).isSome = true
  rw [L.f145]
  rfl
@[simp] theorem lib1_h146 : (T.cf call).has 146 = true := by
  show (T.fn 146).isSome = true
  rw [L.f146]
  rfl
@[simp] theorem lib1_h147 : (T.cf call).has 147 = true := by
  show (T.fn 147).isSome = true
  rw [L.f147]
  rfl
@[simp] theorem lib1_h150 : (T.cf call).has 150 = true := by
  show (T.fn 150).isSome = true
  rw [L.f150]
  rfl
@[simp] theorem lib1_m1_76 : (T.cf call).meth 1 76 = some 22 := L.m1_76
@[simp] theorem lib1_m1_111 : (T.cf call).meth 1 111 = some 24 := L.m1_111
@[simp] theorem lib1_m1_6 : (T.cf call).meth 1 6 = some 25 := L.m1_6
@[simp] theorem lib1_m1_84 : (T.cf call).meth 1 84 = some 27 := L.m1_84
@[simp] theorem lib1_m12_118 : (T.cf call).meth 12 118 = some 157 := L.m12_118
@[simp] theorem lib1_m12_125 : (T.cf call).meth 12 125 = some 158 := L.m12_125
@[simp] theorem lib1_m12_126 : (T.cf call).meth 12 126 = some 159 := L.m12_126
@[simp] theorem lib1_m2_63 : (T.cf call).meth 2 63 = some 36 := L.m2_63
@[simp] theorem lib1_m2_95 : (T.cf call).meth 2 95 = some 37 := L.m2_95
@[simp] theorem lib1_m2_64 : (T.cf call).meth 2 64 = some 38 := L.m2_64
@[simp] theorem lib1_m2_65 : (T.cf call).meth 2 65 = some 39 := L.m2_65
@[simp] theorem lib1_m2_112 : (T.cf call).meth 2 112 = some 40 := L.m2_112
@[simp] theorem lib1_m2_144 : (T.cf call).meth 2 144 = some 41 := L.m2_144
@[simp] theorem lib1_m2_142 : (T.cf call).meth 2 142 = some 42 := L.m2_142
@[simp] theorem lib1_m2_67 : (T.cf call).meth 2 67 = some 43 := L.m2_67
@[simp] theorem lib1_m2_96 : (T.cf call).meth 2 96 = some 44 := L.m2_96
@[simp] theorem lib1_m6_85 : (T.cf call).meth 6 85 = some 53 := L.m6_85
@[simp] theorem lib1_m6_66 : (T.cf call).meth 6 66 = some 54 := L.m6_66
@[simp] theorem lib1_m6_64 : (T.cf call).meth 6 64 = some 55 := L.m6_64
@[simp] theorem lib1_m6_65 : (T.cf call).meth 6 65 = some 56 := L.m6_65
@[simp] theorem lib1_m6_86 : (T.cf call).meth 6 86 = some 57 := L.m6_86
@[simp] theorem lib1_m6_90 : (T.cf call).meth 6 90 = some 58 := L.m6_90
@[simp] theorem lib1_m6_89 : (T.cf call).meth 6 89 = some 64 := L.m6_89
@[simp] theorem lib1_m6_93 : (T.cf call).meth 6 93 = some 65 := L.m6_93
@[simp] theorem lib1_m6_152 : (T.cf call).meth 6 152 = some 67 := L.m6_152
@[simp] theorem lib1_m6_134 : (T.cf call).meth 6 134 = some 68 := L.m6_134
@[simp] theorem lib1_m6_143 : (T.cf call).meth 6 143 = some 71 := L.m6_143
@[simp] theorem lib1_m6_148 : (T.cf call).meth 6 148 = some 72 := L.m6_148
@[simp] theorem lib1_m6_145 : (T.cf call).meth 6 145 = some 75 := L.m6_145
@[simp] theorem lib1_m6_138 : (T.cf call).meth 6 138 = some 77 := L.m6_138
@[simp] theorem lib1_m6_139 : (T.cf call).meth 6 139 = some 78 := L.m6_139
@[simp] theorem lib1_m11_120 : (T.cf call).meth 11 120 = some 133 := L.m11_120
@[simp] theorem lib1_m11_79 : (T.cf call).meth 11 79 = some 134 := L.m11_79
@[simp] theorem lib1_m11_82 : (T.cf call).meth 11 82 = some 135 := L.m11_82
@[simp] theorem lib1_m11_81 : (T.cf call).meth 11 81 = some 142 := L.m11_81
@[simp] theorem lib1_m11_98 : (T.cf call).meth 11 98 = some 143 := L.m11_98
@[simp] theorem lib1_m11_75 : (T.cf call).meth 11 75 = some 144 := L.m11_75
@[simp] theorem lib1_m11_133 : (T.cf call).meth 11 133 = some 145 := L.m11_133
@[simp] theorem lib1_m11_137 : (T.cf call).meth 11 137 = some 146 := L.m11_137
@[simp] theorem lib1_m11_136 : (T.cf call).meth 11 136 = some 147 := L.m11_136
@[simp] theorem lib1_m11_97 : (T.cf call).meth 11 97 = some 150 := L.m11_97
@[simp] theorem lib1_i1 : (T.cf call).init 1 = some 21 := L.i1
@[simp] theorem lib1_i12 : (T.cf call).init 12 = some 156 := L.i12
@[simp] theorem lib1_i2 : (T.cf call).init 2 = some 35 := L.i2
@[simp] theorem lib1_i3 : (T.cf call).init 3 = some 45 := L.i3
@[simp] theorem lib1_i4 : (T.cf call).init 4 = some 50 := L.i4
@[simp] theorem lib1_i13 : (T.cf call).init 13 = some 163 := L.i13
@[simp] theorem lib1_i6 : (T.cf call).init 6 = some 52 := L.i6
@[simp] theorem lib1_i11 : (T.cf call).init 11 = some 132 := L.i11
@[simp] theorem lib1_g1_5 : (T.cf call).bad 1 5 = false := by
  show (!_) = false
  rw [L.g1_5]
  rfl
@[simp] theorem lib1_g2_7 : (T.cf call).bad 2 7 = false := by
  show (!_) = false
  rw [L.g2_7]
  rfl
@[simp] theorem lib1_g2_8 : (T.cf call).bad 2 8 = false := by
  show (!_) = false
  rw [L.g2_8]
  rfl
@[simp] theorem lib1_g2_9 : (T.cf call).bad 2 9 = false := by
  show (!_) = false
  rw [L.g2_9]
  rfl
@[simp] theorem lib1_g2_10 : (T.cf call).bad 2 10 = false := by
  show (!_) = false
  rw [L.g2_10]
  rfl
@[simp] theorem lib1_g3_11 : (T.cf call).bad 3 11 = false := by
  show (!_) = false
  rw [L.g3_11]
  rfl
@[simp] theorem lib1_g4_12 : (T.cf call).bad 4 12 = false := by
  show (!_) = false
  rw [L.g4_12]
  rfl
@[simp] theorem lib1_g4_13 : (T.cf call).bad 4 13 = false := by
  show (!_) = false
  rw [L.g4_13]
  rfl
@[simp] theorem lib1_g4_14 : (T.cf call).bad 4 14 = false := by
  show (!_) = false
  rw [L.g4_14]
  rfl
@[simp] theorem lib1_g6_19 : (T.cf call).bad 6 19 = false := by
  show (!_) = false
  rw [L.g6_19]
  rfl
@[simp] theorem lib1_g6_20 : (T.cf call).bad 6 20 = false := by
  show (!_) = false
  rw [L.g6_20]
  rfl
@[simp] theorem lib1_g6_21 : (T.cf call).bad 6 21 = false := by
  show (!_) = false
  rw [L.g6_21]
  rfl
@[simp] theorem lib1_g6_22 : (T.cf call).bad 6 22 = false := by
  show (!_) = false
  rw [L.g6_22]
  rfl
@[simp] theorem lib1_g6_23 : (T.cf call).bad 6 23 = false := by
  show (!_) = false
  rw [L.g6_23]
  rfl
@[simp] theorem lib1_g6_24 : (T.cf call).bad 6 24 = false := by
  show (!_) = false
  rw [L.g6_24]
  rfl
@[simp] theorem lib1_g6_25 : (T.cf call).bad 6 25 = false := by
  show (!_) = false
  rw [L.g6_25]
  rfl
@[simp] theorem lib1_g6_26 : (T.cf call).bad 6 26 = false := by
  show (!_) = false
  rw [L.g6_26]
  rfl
@[simp] theorem lib1_g11_50 : (T.cf call).bad 11 50 = false := by
  show (!_) = false
  rw [L.g11_50]
  rfl
@[simp] theorem lib1_g11_51 : (T.cf call).bad 11 51 = false := by
  show (!_) = false
  rw [L.g11_51]
  rfl
@[simp] theorem lib1_g11_52 : (T.cf call).bad 11 52 = false := by
  show (!_) = false
  rw [L.g11_52]
  rfl
@[simp] theorem lib1_g11_53 : (T.cf call).bad 11 53 = false := by
  show (!_) = false
  rw [L.g11_53]
  rfl
@[simp] theorem lib1_g11_54 : (T.cf call).bad 11 54 = false := by
  show (!_) = false
  rw [L.g11_54]
  rfl
@[simp] theorem lib1_g11_55 : (T.cf call).bad 11 55 = false := by
  show (!_) = false
  rw [L.g11_55]
  rfl
@[simp] theorem lib1_g11_56 : (T.cf call).bad 11 56 = false := by
  show (!_) = false
  rw [L.g11_56]
  rfl
@[simp] theorem lib1_g11_57 : (T.cf call).bad 11 57 = false := by
  show (!_) = false
  rw [L.g11_57]
  rfl
@[simp] theorem lib1_g11_58 : (T.cf call).bad 11 58 = false := by
  show (!_) = false
  rw [L.g11_58]
  rfl
@[simp] theorem lib1_g11_59 : (T.cf call).bad 11 59 = false := by
  show (!_) = false
  rw [L.g11_59]
  rfl
@[simp] theorem lib1_g11_60 : (T.cf call).bad 11 60 = false := by
  show (!_) = false
  rw [L.g11_60]
  rfl
@[simp] theorem lib1_g12_10 : (T.cf call).bad 12 10 = false := by
  show (!_) = false
  rw [L.g12_10]
  rfl
@[simp] theorem lib1_g12_129 : (T.cf call).bad 12 129 = false := by
  show (!_) = false
  rw [L.g12_129]
  rfl
@[simp] theorem lib1_g12_130 : (T.cf call).bad 12 130 = false := by
  show (!_) = false
  rw [L.g12_130]
  rfl
@[simp] theorem lib1_g12_131 : (T.cf call).bad 12 131 = false := by
  show (!_) = false
  rw [L.g12_131]
  rfl
@[simp] theorem lib1_g13_68 : (T.cf call).bad 13 68 = false := by
  show (!_) = false
  rw [L.g13_68]
  rfl
@[simp] theorem lib1_g13_132 : (T.cf call).bad 13 132 = false := by
  show (!_) = false
  rw [L.g13_132]
  rfl
@[simp] theorem cf_call : (T.cf call).call = call := rfl
end
end Mn
end
section
set_option Elab.async false
set_option linter.all false
set_option maxRecDepth 100000
set_option maxHeartbeats 4000000
namespace Mn
open PySem L2
def LET : Str := " !\"#$&'()*+,-./0123456789:;<=>?@ABCDEFGHIJKLMNOPQRSTUVWXYZ[\\]^_`abcdefghijklmnopqrstuvwxyz{|}~\n"
def codes : List Nat := LET.cps.toList
def posIn : List Nat → Nat → Nat
  | [], _ => 0
  | x :: xs, c => if x = c then 0 else posIn xs c + 1
def sg (c : Nat) : Nat := if posIn codes c < 5 then posIn codes c else posIn codes c + 1
def unsg (s : Nat) : Nat := codes.getD (if s < 5 then s else s - 1) 0
def ch (c : Nat) : Str := ⟨#[c]⟩
theorem sg_lt : ∀ c ∈ codes, sg c < 96 ∧ sg c ≠ 5 := by decide +kernel
theorem unsg_sg : ∀ c ∈ codes, unsg (sg c) = c := by decide +kernel
theorem occ_ch : ∀ c ∈ codes, PySem.Builtin.Str.occurrences LET (ch c) 0 LET.length 1 = [posIn codes c] := by decide +kernel
theorem let_len : LET.length = 95 := by decide +kernel
theorem codes_len : LET.cps.toList.length = 95 := by decide +kernel
section
variable {T : Tx} [Lib1 T] {d : Nat} {h : Hm}
theorem c_sign_of {c : Nat} (hc : c ∈ codes) : run T (d + 1) 4 [.str (ch c)] h = .ok (.int (sg c)) h := by
  refine run_pure_old (Lib1.f4 (T := T)) rfl rfl ?_ rfl
  have h1 : inW (.str (ch c)) (.str LET) { h with lo := h.n } = some true := by
    show (one (ch c)).map (fun x => decide (x ∈ LET.cps.toList)) = some true
    show some (decide (c ∈ LET.cps.toList)) = some true
    rw [decide_eq_true (show c ∈ LET.cps.toList from hc)]
  have h2 : cmpW .notin (.str (ch c)) (.str LET) { h with lo := h.n } = some false := by
    show (inW (.str (ch c)) (.str LET) { h with lo := h.n }).map (!·) = some false
    rw [h1]
    rfl
  have h3 : bm .index (.str LET) [.str (ch c)] { h with lo := h.n } = .ok (.int (posIn codes c)) { h with lo := h.n } := by
    show (match PySem.Builtin.Str.occurrences LET (ch c) 0 LET.length 1 with
      | j :: _ => R.ok (W.int j) { h with lo := h.n }
      | [] => R.st) = _
    rw [occ_ch c hc]
  have e : P.F_sign_of.body = P.b_sign_of := rfl
  rw [e]
  unfold P.b_sign_of
  change R.val (evSs _ (Sms.of [.ite (.cmp .notin (.loc 0) (.con (.str LET))) _ _, .set (.one 1) (.bm .index (.con (.str LET)) _), _, _]) _ _).out = _
  by_cases q : posIn codes c < 5
  · have : sg c = posIn codes c := if_pos q
    have q' : ((posIn codes c : Nat) : Int) < 5 := by omega
    simp [startW, P.F_sign_of, h2, h3, kindW, okM, this, q']
  · have : sg c = posIn codes c + 1 := if_neg q
    have q' : ¬ ((posIn codes c : Nat) : Int) < 5 := by omega
    simp [startW, P.F_sign_of, h2, h3, kindW, okM, this, q']
end
end Mn
end
section
set_option Elab.async false
set_option linter.all false
set_option maxRecDepth 100000
set_option maxHeartbeats 4000000
namespace Mn
open PySem L2
theorem strW_eq (s : Str) : strW s = s.cps.toList.map fun c => .str (ch c) := rfl
def nts (xs : List Nat) : List W := xs.map fun i : Nat => W.int i
@[simp] theorem nts_length (xs : List Nat) : (nts xs).length = xs.length := List.length_map _
@[simp] theorem nts_nil : nts [] = [] := rfl
@[simp] theorem nts_cons (x : Nat) (xs : List Nat) : nts (x :: xs) = .int x :: nts xs := rfl
@[simp] theorem nts_append (xs ys : List Nat) : nts (xs ++ ys) = nts xs ++ nts ys := List.map_append
theorem nts_drop (xs : List Nat) (k : Nat) : (nts xs).drop k = nts (xs.drop k) := List.map_drop.symm
theorem nts_map {ι : Type} (g : ι → Nat) (ys : List ι) : ys.map (fun y => W.int (g y)) = nts (ys.map g) := by unfold nts; rw [List.map_map]; rfl
theorem olds_nts {n : Nat} : ∀ xs : List Nat, olds n (nts xs) = true
  | [] => rfl
  | x :: xs => by
    show (old n (.int x) && olds n (nts xs)) = true
    rw [olds_nts xs]
    rfl
theorem intsL_nts : ∀ xs : List Nat, intsL (nts xs) = some (xs.map fun i : Nat => (i : Int))
  | [] => rfl
  | x :: xs => by
    show (intsL (nts xs)).map _ = _
    rw [intsL_nts xs]
    rfl
section
variable {T : Tx} [Lib1 T] {d : Nat} {h : Hm}
theorem c_text_signs {s : Str} (hc : ∀ c ∈ s.cps.toList, c ∈ codes) (hl : s.cps.toList.length ≤ line) : run T (d + 2) 5 [.str s] h = .ok (.ref h.n) (h.push (.lst (nts (s.cps.toList.map sg)))) := by
  refine run_pure_new (a := h.n) (Lib1.f5 (T := T)) rfl rfl ?_ (Nat.le_refl _) (olds_nts _)
  have e2 : ∀ h : Hm, compL [] (fun x h => (run T (d + 1) 4 [x] h).bind fun y h => R.ok (some y) h) (strW s) h = .ok (nts (s.cps.toList.map sg)) h := fun h => by
    rw [strW_eq, compL_map (g := fun c => W.int (sg c)) rfl fun c hc' => by rw [c_sign_of (hc c hc')]; rfl, nts_map]
  have hl' : (nts (s.cps.toList.map sg)).length ≤ line := by simpa using hl
  simp [P.F_text_signs, P.b_text_signs, startW, plan, toLock, withLock, store, e2, newL_eq hl', asB]
theorem c_letter {n : Nat} (h1 : n < 96) (h2 : n ≠ 5) : run T (d + 1) 154 [.int n] h = .ok (.str (ch (unsg n))) h := by
  refine run_pure_old (Lib1.f154 (T := T)) rfl rfl ?_ rfl
  have e : P.F_letter_of_sign.body = P.b_letter_of_sign := rfl
  rw [e]
  unfold P.b_letter_of_sign
  change R.val (evSs _ (Sms.of [_, .ite _ (.of [.ret (.sub (.con (.str LET)) _)]) _, .ret (.sub (.con (.str LET)) _)]) _ _).out = _
  have a1 : ¬ ((n : Int) < 0) := by omega
  have a2 : ¬ ((95 : Int) < n) := by omega
  have a3 : ¬ ((n : Int) = 5) := by omega
  have sub : ∀ (j : Nat) (h : Hm), j < 95 → Mn.sub (.str LET) (.int j) h = some (.str (ch (codes.getD j 0))) := fun j h hj => by
    show (if LET.length ≤ line then ((ixn LET.cps.toList.length (j : Int)).bind fun j => LET.cps.toList[j]?).map fun c => W.str ⟨#[c]⟩ else none) = _
    rw [if_pos (by rw [let_len]; decide), codes_len]
    have : ixn 95 (j : Int) = some j := by
      unfold ixn
      rw [if_pos (by omega), if_pos (by omega)]
      simp
    rw [this]
    show (codes[j]?).map _ = _
    have hj' : j < codes.length := by rw [show codes.length = 95 from codes_len]; exact hj
    rw [List.getElem?_eq_getElem hj', List.getD_eq_getElem?_getD, List.getElem?_eq_getElem hj']
    rfl
  by_cases q : n < 5
  · have q' : (n : Int) < 5 := by omega
    have u : unsg n = codes.getD n 0 := by
      unfold unsg
      rw [if_pos q]
    simp [startW, P.F_letter_of_sign, a1, a2, a3, q', sub n _ (by omega), u]
  · have q' : ¬ (n : Int) < 5 := by omega
    have u : unsg n = codes.getD (n - 1) 0 := by
      unfold unsg
      rw [if_neg q]
    have e1 : (n : Int) - 1 = ((n - 1 : Nat) : Int) := by omega
    simp [startW, P.F_letter_of_sign, a1, a2, a3, q', e1, sub (n - 1) _ (by omega), u]
def txt (xs : List Nat) : Str := ⟨(xs.map unsg).toArray⟩
theorem strsL_map {ι : Type} (g : ι → Str) : ∀ ys : List ι, strsL (ys.map fun y => .str (g y)) = some (ys.map g)
  | [] => rfl
  | y :: ys => by
    show (strsL (ys.map fun y => .str (g y))).map _ = _
    rw [strsL_map g ys]
    rfl
theorem join_ch : ∀ xs : List Nat, Txt.join (Str.ofString "") (xs.map ch) = ⟨xs.toArray⟩ := fun xs => by
  rw [TL.join_eq]
  have key : ∀ xs : List Nat, TL.tl (Str.join (Str.ofString "") (xs.map ch)) = xs := by
    intro xs
    rw [TL.tl_join]
    have e0 : TL.tl (Str.ofString "") = [] := by decide +kernel
    rw [e0, List.map_map]
    have : ∀ xs : List Nat, TL.joinL [] (xs.map (TL.tl ∘ ch)) = xs := by
      intro xs
      induction xs with
      | nil => rfl
      | cons x xs ih =>
        cases xs with
        | nil => rfl
        | cons y ys =>
          show [x] ++ ([] ++ TL.joinL [] ((y :: ys).map (TL.tl ∘ ch))) = _
          rw [ih]
          rfl
    exact this xs
  have z := key xs
  have : ∀ s : Str, s = ⟨(TL.tl s).toArray⟩ := fun s => by
    cases s
    simp [TL.tl]
  rw [this (Str.join _ _), z]
theorem c_signs_text {a : Nat} {xs : List Nat} (hg : h.g a = some (.lst (nts xs))) (hx : ∀ x ∈ xs, x < 96 ∧ x ≠ 5) (hl : xs.length ≤ line) : run T (d + 2) 155 [.ref a] h = .ok (.str (txt xs)) h := by
  refine run_pure_old (Lib1.f155 (T := T)) rfl rfl ?_ rfl
  have e2 : ∀ h : Hm, h.g a = some (.lst (nts xs)) → compL [(a, nts xs)] (fun x h => (run T (d + 1) 154 [x] h).bind fun y h => R.ok (some y) h) (nts xs) h = .ok (xs.map fun x => W.str (ch (unsg x))) h := fun h hg => by
    show compL _ _ (xs.map fun i : Nat => W.int i) h = _
    rw [compL_map (g := fun x => W.str (ch (unsg x))) (stays_one hg) fun x hx' => by
      obtain ⟨h1, h2⟩ := hx x hx'
      rw [c_letter h1 h2]
      rfl]
  have hl' : (xs.map fun x => W.str (ch (unsg x))).length ≤ line := by simpa using hl
  have e3 := e2 { h with lo := h.n } hg
  have jn : ∀ (b : Nat) (h : Hm), h.g b = some (.lst (xs.map fun x => W.str (ch (unsg x)))) → bm .join (.str (Str.ofString "")) [.ref b] h = .ok (.str (txt xs)) h := fun b h hb => by
    have e1 : (seqW (.ref b) h).bind strsL = some (xs.map fun x => ch (unsg x)) := by
      show (match h.g b with
        | some (.lst xs) => some xs
        | _ => none).bind strsL = _
      rw [hb]
      exact strsL_map _ xs
    show (match (seqW (.ref b) h).bind strsL with
      | some ys => if (ys.map Str.length).sum + ys.length * (Str.ofString "").length ≤ line then R.ok (W.str (Txt.join (Str.ofString "") ys)) h else .st
      | none => .st) = _
    rw [e1]
    dsimp only
    have e4 : ((xs.map fun x => ch (unsg x)).map Str.length).sum = xs.length := by
      rw [List.map_map]
      clear hx hl e2 hl' e3 hb e1 hg
      induction xs with
      | nil => rfl
      | cons x xs ih =>
        simp only [List.map_cons, List.sum_cons, List.length_cons, ih]
        show 1 + _ = _
        omega
    rw [e4, show (Str.ofString "").length = 0 by decide +kernel, Nat.mul_zero, Nat.add_zero, if_pos hl]
    have e5 : (xs.map fun x => ch (unsg x)) = (xs.map unsg).map ch := by rw [List.map_map]; rfl
    rw [e5, join_ch]
    rfl
  simp [P.F_signs_text, P.b_signs_text, startW, kindW, okM, toLock, withLock, isD, hg, plan, planL, store, asB, e3, newL_eq hl', jn]
end
end Mn
end
section
set_option Elab.async false
set_option linter.all false
set_option maxRecDepth 100000
set_option maxHeartbeats 4000000
namespace Mn
open PySem L2
section
variable {T : Tx} [Lib1 T] {d : Nat} {h : Hm}
def dg2 (n : Nat) : List Nat := [n / 97, n % 97]
def dg3 (n : Nat) : List Nat := [n / 97 / 97, n / 97 % 97, n % 97]
theorem rng_2 (h : Hm) : (if -(2 ^ 62) ≤ (0 : Int) ∧ (0 : Int) < 2 ^ 62 ∧ -(2 ^ 62) ≤ (2 : Int) ∧ (2 : Int) < 2 ^ 62 then R.ok (⟨rngL ((2 : Int) - 0).toNat 0, []⟩ : Plan) h else .st) = .ok ⟨[.int 0, .int 1], []⟩ h := by
  rw [if_pos (by decide)]
  rfl
theorem c_number2 {n : Nat} (hn : n < 9409) : run T (d + 1) 6 [.int n, .int 2] h = .ok (.ref h.n) (h.push (.lst (nts (dg2 n)))) := by
  have m3 : (n : Int) / 97 % 97 = (n : Int) / 97 := by omega
  have m4 : (n : Int) / 97 / 97 = 0 := by omega
  refine run_pure_new (a := h.n + 1) (Lib1.f6 (T := T)) rfl rfl ?_ (Nat.le_succ _) (olds_nts _)
  have md : ∀ (i : Int) (h : Hm), binW .mod (.int i) (.int 97) h = .ok (.int (i % 97)) h := fun i h => w_mod (by decide)
  have fd : ∀ (i : Int) (h : Hm), binW .fdiv (.int i) (.int 97) h = .ok (.int (i / 97)) h := fun i h => w_fdiv ⟨by decide, by decide⟩
  have nl : ∀ (h : Hm), newL [] h = .ok (.ref h.n) (h.push (.lst [])) := fun h => newL_eq (by decide)
  simp [P.F_number_signs, P.b_number_signs, startW, evS_for, nl, rngL, forL, md, fd, u_kindR, app_new, u_listrev, u_rdL, R.lst, dg2, m3, m4, Hm.push_g]
theorem c_number3 {n : Nat} (hn : n < 912673) : run T (d + 1) 6 [.int n, .int 3] h = .ok (.ref h.n) (h.push (.lst (nts (dg3 n)))) := by
  have m3 : (n : Int) / 97 / 97 % 97 = (n : Int) / 97 / 97 := by omega
  have m4 : (n : Int) / 97 / 97 / 97 = 0 := by omega
  refine run_pure_new (a := h.n + 1) (Lib1.f6 (T := T)) rfl rfl ?_ (Nat.le_succ _) (olds_nts _)
  have md : ∀ (i : Int) (h : Hm), binW .mod (.int i) (.int 97) h = .ok (.int (i % 97)) h := fun i h => w_mod (by decide)
  have fd : ∀ (i : Int) (h : Hm), binW .fdiv (.int i) (.int 97) h = .ok (.int (i / 97)) h := fun i h => w_fdiv ⟨by decide, by decide⟩
  have nl : ∀ (h : Hm), newL [] h = .ok (.ref h.n) (h.push (.lst [])) := fun h => newL_eq (by decide)
  simp [P.F_number_signs, P.b_number_signs, startW, evS_for, nl, rngL, forL, md, fd, u_kindR, app_new, u_listrev, u_rdL, R.lst, dg3, m3, m4, Hm.push_g]
theorem c_look_sign {n : Nat} (hn : n < 97) : run T (d + 1) 1 [.int n] h = .ok .non h := by
  have a1 : ¬ ((n : Int) < 0) := by omega
  have a2 : ¬ ((97 : Int) ≤ n) := by omega
  refine run_pure_old (Lib1.f1 (T := T)) rfl rfl ?_ rfl
  simp [P.F_look_sign, P.b_look_sign, startW, a1, a2]
theorem c_of2 {a b : Nat} (ha : a < 97) (hb : b < 97) : run T (d + 2) 7 [.tup [.int a, .int b]] h = .ok (.int ((a * 97 + b : Nat) : Int)) h := by
  refine run_pure_old (Lib1.f7 (T := T)) rfl rfl ?_ rfl
  have z : ∀ (n : Nat) (h : Hm), n < 97 → run T (d + 1) 1 [.int n] h = .ok .non h := fun n h hn => c_look_sign hn
  have mu : ∀ (i : Int) (h : Hm), i.natAbs < 10000 → binW .mul (.int i) (.int 97) h = .ok (.int (i * 97)) h := fun i h hi => w_mul (by
    have : i.natAbs.log2 < 64 := by
      by_cases q : i.natAbs = 0
      · rw [q]; decide
      · exact (Nat.log2_lt q).mpr (by omega)
    have e : (97 : Int).natAbs.log2 = 6 := by decide
    omega)
  have m0 : ∀ h : Hm, binW .mul (.int 0) (.int 97) h = .ok (.int 0) h := fun h => mu 0 h (by decide)
  have m1 : ∀ h : Hm, binW .mul (.int a) (.int 97) h = .ok (.int (a * 97)) h := fun h => mu a h (by omega)
  simp [P.F_signs_number, P.b_signs_number, startW, evS_for, forL, z, ha, hb, m0, m1]
theorem c_of3 {a b c : Nat} (ha : a < 97) (hb : b < 97) (hc : c < 97) : run T (d + 2) 7 [.tup [.int a, .int b, .int c]] h = .ok (.int (((a * 97 + b) * 97 + c : Nat) : Int)) h := by
  refine run_pure_old (Lib1.f7 (T := T)) rfl rfl ?_ rfl
  have z : ∀ (n : Nat) (h : Hm), n < 97 → run T (d + 1) 1 [.int n] h = .ok .non h := fun n h hn => c_look_sign hn
  have mu : ∀ (i : Int) (h : Hm), i.natAbs < 10000 → binW .mul (.int i) (.int 97) h = .ok (.int (i * 97)) h := fun i h hi => w_mul (by
    have : i.natAbs.log2 < 64 := by
      by_cases q : i.natAbs = 0
      · rw [q]; decide
      · exact (Nat.log2_lt q).mpr (by omega)
    have e : (97 : Int).natAbs.log2 = 6 := by decide
    omega)
  have m0 : ∀ h : Hm, binW .mul (.int 0) (.int 97) h = .ok (.int 0) h := fun h => mu 0 h (by decide)
  have m1 : ∀ h : Hm, binW .mul (.int a) (.int 97) h = .ok (.int (a * 97)) h := fun h => mu a h (by omega)
  have m2 : ∀ h : Hm, binW .mul (.int (a * 97 + b)) (.int 97) h = .ok (.int ((a * 97 + b) * 97)) h := fun h => mu _ h (by omega)
  simp [P.F_signs_number, P.b_signs_number, startW, evS_for, forL, z, ha, hb, hc, m0, m1, m2]
theorem dg2_lt {n : Nat} (hn : n < 9409) : n / 97 < 97 ∧ n % 97 < 97 ∧ n / 97 * 97 + n % 97 = n := by omega
theorem dg3_lt {n : Nat} (hn : n < 912673) : n / 97 / 97 < 97 ∧ n / 97 % 97 < 97 ∧ n % 97 < 97 ∧ (n / 97 / 97 * 97 + n / 97 % 97) * 97 + n % 97 = n := by omega
end
end Mn
end
section
set_option Elab.async false
set_option linter.all false
set_option maxRecDepth 100000
set_option maxHeartbeats 4000000
namespace Mn
open PySem L2
theorem u_lenset {w : W} {h : Hm} : bi .lenset [w] h = match seqW w h with
    | some xs => (match intsL xs with
      | some is => if is.length ≤ 4000 then .ok (.int (is.foldl PyProof.Rows.step_dedup []).length) h else .st
      | none => (match strsL xs with
        | some ss => if ss.length ≤ 1 then .ok (.int ss.length) h else .st
        | none => .st))
    | none => .st := rfl
theorem forL_nts {S : Type} {gd : List (Nat × List W)} {h : Hm} (rep : S → List (Option W)) {f : W → List (Option W) → Hm → F} (step : S → Nat → S) (hs : stays h gd = true) {xs : List Nat} {s : S} (hf : ∀ n ∈ xs, ∀ s, f (.int (n : Nat)) (rep s) h = .nx (rep (step s n)) h) : forL gd f (nts xs) (rep s) h = .nx (rep (xs.foldl step s)) h :=
  forL_map (k := fun n : Nat => W.int n) rep hs hf
section
variable {T : Tx} [Lib1 T] {d : Nat} {h : Hm}
theorem c_are_signs {xs : List Nat} (hx : ∀ x ∈ xs, x < 97) : run T (d + 1) 79 [.tup (nts xs)] h = .ok (.bl true) h := by
  refine run_pure_old (Lib1.f79 (T := T)) rfl rfl ?_ rfl
  simp [P.F_are_signs, P.b_are_signs, startW, evS_for]
  rw [forL_nts (fun o => [some (.tup (nts xs)), o]) (fun _ n => some (.int (n : Nat))) rfl]
  · rfl
  · intro n hn o
    have a1 : ¬ ((n : Int) < 0) := by omega
    have a2 : ¬ ((97 : Int) ≤ n) := by have := hx n hn; omega
    simp [a1, a2]
theorem c_is_way {n : Nat} (hn : n < 32) : run T (d + 1) 80 [.tup [.int n]] h = .ok (.bl true) h := by
  refine run_pure_old (Lib1.f80 (T := T)) rfl rfl ?_ rfl
  have a1 : (0 : Int) ≤ n := by omega
  have a2 : (n : Int) < 32 := by omega
  simp [P.F_is_way, P.b_is_way, startW, u_lenset, u_seqT, u_min1, u_max1, intsL, PyProof.Rows.step_dedup, a1, a2]
def lett (n : Nat) (hs : Nat) (kind : Str) (about body : List Nat) : W := .tup [.int n, .tup [.int hs], .str kind, .tup (nts about), .tup (nts body)]
theorem kinds_part : cmpW .notin (.str (Str.ofString "part")) P.g_KINDS h = some false := by rfl
theorem kinds_had : cmpW .notin (.str (Str.ofString "had")) P.g_KINDS h = some false := by rfl
theorem c_made_letter {n hs : Nat} {kind : Str} {about body : List Nat} (h1 : n ≤ 900000) (h2 : hs < 32) (hk : ∀ h, cmpW .notin (.str kind) P.g_KINDS h = some false) (h3 : about.length ≤ 4) (h4 : body.length ≤ 56) (h5 : ∀ x ∈ about, x < 97) (h6 : ∀ x ∈ body, x < 97) :
    run T (d + 2) 81 [.int n, .tup [.int hs], .str kind, .tup (nts about), .tup (nts body)] h = .ok (lett n hs kind about body) h := by
  have ho : old h.n (lett n hs kind about body) = true := by
    simp [old, olds, lett, olds_nts]
  refine run_pure_old (Lib1.f81 (T := T)) rfl rfl ?_ ho
  have a1 : ¬ ((n : Int) < 0) := by omega
  have a2 : ¬ ((900000 : Int) < n) := by omega
  have a3 : ¬ ((4 : Int) < about.length) := by omega
  have a4 : ¬ ((56 : Int) < body.length) := by omega
  have b1 : ∀ h, run T (d + 1) 80 [.tup [.int hs]] h = .ok (.bl true) h := fun h => c_is_way h2
  have b2 : ∀ h, run T (d + 1) 79 [.tup (nts about)] h = .ok (.bl true) h := fun h => c_are_signs h5
  have b3 : ∀ h, run T (d + 1) 79 [.tup (nts body)] h = .ok (.bl true) h := fun h => c_are_signs h6
  simp [P.F_made_letter, P.b_made_letter, startW, a1, a2, a3, a4, b1, b2, b3, hk, line, lett]
end
end Mn
end
section
set_option Elab.async false
set_option linter.all false
set_option maxRecDepth 100000
set_option maxHeartbeats 4000000
namespace Mn
open PySem L2
theorem sort1 {h : Hm} {i : Int} : sortW h [.int i] = some [.int i] := by
  simp [sortW, dats, dat, sortable, plainD, tupled, PyData.depth, line, PySem.W.alike, sortD, insD]
theorem sort0 {h : Hm} : sortW h [] = some [] := by
  simp [sortW, dats, dat, sortable, plainD, tupled, PyData.depth, line, PySem.W.alike, sortD, insD]
theorem sortP {h : Hm} {i j : Int} : sortW h [.tup [.int i, .int j]] = some [.tup [.int i, .int j]] := by
  simp [sortW, dats, dat, sortable, plainD, tupled, PyData.depth, PyData.depthAll, line, PySem.W.alike, PySem.W.alikeAll, sortD, insD]
def news1 (hs nn : Nat) (nms : List W) : W := .tup [.int hs, .int nn, .tup [], .tup nms]
section
variable {T : Tx} [Lib1 T] {d : Nat} {h : Hm}
theorem c_wires {ch kn hs nn : Nat} {nms : List W} (h1 : h.g ch = some (.ins 1 [(5, .ref kn)])) (h2 : h.g kn = some (.dK [(.inl (hs : Int), news1 hs nn nms)])) (hc : ch < h.n) (hk : kn < h.n) :
    run T (d + 1) 25 [.ref ch] h = .ok (.ref h.n) (h.push (.lst [])) := by
  refine run_pure_new (a := h.n) (Lib1.f25 (T := T)) rfl rfl ?_ (Nat.le_refl _) rfl
  have nl : ∀ (h : Hm), newL [] h = .ok (.ref h.n) (h.push (.lst [])) := fun h => newL_eq (by decide)
  have e1 : kn ≠ h.n := by omega
  have e2 : ch ≠ h.n := by omega
  have e3 : kn ≠ h.n + 1 := by omega
  have e4 : ch ≠ h.n + 1 := by omega
  have e5 : kn ≠ h.n + 2 := by omega
  have e6 : ch ≠ h.n + 2 := by omega
  simp [P.F_Map_wires, P.b_Map_wires, startW, evS_for, nl, u_fldW, h1, h2, Hm.push_g, e1, e2, e3, e4, e5, e6, u_listR, wOf, u_sorted, u_rdL, sort1, toLock_ref, u_planR, u_planLR, u_stays, forL, u_subR, u_dgetR, keyOf, news1, u_subT, ixn]
theorem c_beside0 {ws : Nat} {w : W} (h1 : h.g ws = some (.lst [])) (hw : ws < h.n) : run T (d + 1) 28 [.ref ws, w] h = .ok (.ref h.n) (h.push (.lst [])) := by
  have nl : ∀ (h : Hm), newL [] h = .ok (.ref h.n) (h.push (.lst [])) := fun h => newL_eq (by decide)
  have e1 : ws ≠ h.n := by omega
  refine run_pure_new (a := h.n + 1) (Lib1.f28 (T := T)) rfl rfl ?_ (Nat.le_succ _) rfl
  simp [P.F_beside, P.b_beside, startW, evS_for, nl, h1, Hm.push_g, e1, u_sorted, u_rdL, sort0, toLock_ref, u_planR, u_planLR, u_stays, forL]
theorem c_lengths {ws n : Nat} (h1 : h.g ws = some (.lst [])) (hw : ws < h.n) (hlo : h.lo ≤ h.n) :
    run T (d + 2) 29 [.ref ws, .int n] h = .ok (.ref h.n) (((h.push (.dK [(.inl (n : Int), .int 0)])).push (.lst [.int n])).push (.lst [])) := by
  rw [run_fn (Lib1.f29 (T := T)) rfl rfl]
  have e1 : ws ≠ h.n := by omega
  have e2 : ws ≠ h.n + 1 := by omega
  have b1 : run T (d + 1) 28 [.ref ws, .int n] ((h.push (.dK [(.inl (n : Int), .int 0)])).push (.lst [.int n])) = .ok (.ref (h.n + 1 + 1)) (((h.push (.dK [(.inl (n : Int), .int 0)])).push (.lst [.int n])).push (.lst [])) := c_beside0 (by simp [Hm.push_g, e1, e2, h1]) (by simp; omega)
  simp [P.F_lengths_to, P.b_lengths_to, startW, dpairs, keyOf, putD]
  rw [evS_whl, whileL_true (m := 999999) (σ2 := [some (.ref ws), some (.int n), some (.ref h.n), some (.bl false), some (.int n), none, none]) (h2 := ((h.push (.dK [(.inl (n : Int), .int 0)])).push (.lst [.int n])).push (.lst [])) rfl, whileL_false (m := 999998) rfl]
  · rfl
  · simp
  · simp
    rfl
  · simp [evS_for, u_listR, wOf, toLock_ref, Hm.push_g, u_planR, u_planLR, u_stays, forL, b1]
def wyW : Sm := .whl (.cmp .ne (.sub (.loc 5) (.neg (.con (.int 1)))) (.loc 2)) (.of [.expr (.bm .append (.loc 5) (.of [.bi .min (.of [.comp (.loc 6) (.row [6, 7]) (.val (.call 28 (.of [.loc 3, .sub (.loc 5) (.neg (.con (.int 1)))]))) (.cmp .eq (.bin .add (.sub (.loc 4) (.loc 6)) (.loc 7)) (.sub (.loc 4) (.sub (.loc 5) (.neg (.con (.int 1))))))])]))])
def wyC : Ex := .comp (.tup (.of [.loc 6, .sub (.loc 4) (.loc 6)])) (.one 6) (.val (.loc 4)) (.con (.bl true))
theorem way_body : P.b_way_of = .of [.set (.one 3) (.meth (.loc 0) 6 .nil), .set (.one 4) (.call 29 (.of [.loc 3, .loc 2])), .ite (.cmp .notin (.loc 1) (.loc 4)) (.of [.ret (.tup (.of [.con (.str "side"), .bi .tuple (.of [.bi .sorted (.of [.call 29 (.of [.loc 3, .loc 1])])])]))]) .nil, .set (.one 5) (.lst (.of [.loc 1])), wyW, .ret (.tup (.of [.con (.str "way"), .bi .tuple (.of [.loc 5]), .bi .sorted (.of [wyC])]))] := rfl
theorem c_way {ch kn hs nn : Nat} {nms : List W} (h1 : h.g ch = some (.ins 1 [(5, .ref kn)])) (h2 : h.g kn = some (.dK [(.inl (hs : Int), news1 hs nn nms)])) (hc : ch < h.n) (hk : kn < h.n) (hlo : h.lo ≤ h.n) (hlk : h.lk = []) :
    ∃ h' x, run T (d + 3) 30 [.ref ch, .int hs, .int hs] h = .ok (.tup [.str (Str.ofString "way"), .tup [.int hs], .ref x]) h' ∧ Fr [] h h' ∧ h.n ≤ x ∧ x < h'.n ∧ h'.g x = some (.lst [.tup [.int hs, .int 0]]) := by
  rw [run_fn (Lib1.f30 (T := T)) rfl rfl]
  have b1 : run T (d + 2) 25 [.ref ch] h = .ok (.ref h.n) (h.push (.lst [])) := c_wires h1 h2 hc hk
  have b2 := c_lengths (T := T) (d := d) (ws := h.n) (n := hs) (h := h.push (.lst [])) (by simp) (by simp) (by simp; omega)
  have nl : ∀ (x : W) (h : Hm), newL [x] h = .ok (.ref h.n) (h.push (.lst [x])) := fun x h => newL_eq (by simp [line])
  have cond : ∀ σ : List (Option W), ∀ h9 : Hm, h9.g (h.n + 1 + 1 + 1 + 1) = some (.lst [.int hs]) → σ[5]? = some (some (.ref (h.n + 1 + 1 + 1 + 1))) → σ[2]? = some (some (.int hs)) → evT (T.cf (run T (d + 2))) (.cmp .ne (.sub (.loc 5) (.neg (.con (.int 1)))) (.loc 2)) σ h9 = .ok false h9 := fun σ h9 g e1 e2 => by
    simp [e1, e2, u_subR, g, ixn]
  obtain ⟨H, qH⟩ : ∃ H : Hm, H = ((((h.push (.lst [])).push (.dK [(.inl (hs : Int), .int 0)])).push (.lst [.int hs])).push (.lst [])).push (.lst [.int hs]) := ⟨_, rfl⟩
  have g5 : H.g (h.n + 1 + 1 + 1 + 1) = some (.lst [.int hs]) := by rw [qH]; simp [Hm.push_g]
  have g1 : H.g (h.n + 1) = some (.dK [(.inl (hs : Int), .int 0)]) := by rw [qH]; simp [Hm.push_g]
  have nH : H.n = h.n + 5 := by rw [qH]; rfl
  have lk : H.lk = [] := by rw [qH]; exact hlk
  obtain ⟨σ, qσ⟩ : ∃ σ : List (Option W), σ = [some (.ref ch), some (.int hs), some (.int hs), some (.ref h.n), some (.ref (h.n + 1)), some (.ref (h.n + 1 + 1 + 1 + 1)), none, none] := ⟨_, rfl⟩
  have wl : evS (T.cf (run T (d + 2))) wyW σ H = .nx σ H := by
    rw [wyW, evS_whl, whileL_false (m := 999999) rfl (cond σ H g5 (by rw [qσ]; rfl) (by rw [qσ]; rfl))]
  have cm : evE (T.cf (run T (d + 2))) wyC σ H = .ok (.ref H.n) (H.push (.lst [.tup [.int hs, .int 0]])) := by
    rw [wyC, q_evE_comp]
    have tl : toLock (evL (T.cf (run T (d + 2))) (.val (.loc 4)) σ H) = some (h.n + 1) := by
      rw [qσ]
      simp [toLock_ref, g1]
    rw [tl, withLock_some (by simp [lk]) (by omega) (by simp [g1])]
    simp [qσ, u_planR, g1, compL, u_stays, wOf, u_subR, u_dgetR, keyOf, nl]
  have so : bi .sorted [.ref H.n] (H.push (.lst [.tup [.int hs, .int 0]])) = .ok (.ref (H.n + 1)) ((H.push (.lst [.tup [.int hs, .int 0]])).push (.lst [.tup [.int hs, .int 0]])) := by
    rw [u_sorted, u_rdL, Hm.push_same]
    show (match sortW (H.push (.lst [.tup [.int hs, .int 0]])) [.tup [.int hs, .int 0]] with
      | some ys => new (.lst ys) _
      | none => .st) = _
    rw [sortP]
    rfl
  have tu : bi .tuple [.ref (h.n + 1 + 1 + 1 + 1)] H = .ok (.tup [.int hs]) H := by
    rw [u_tupR, u_rdL, g5]
  refine ⟨(H.push (.lst [.tup [.int hs, .int 0]])).push (.lst [.tup [.int hs, .int 0]]), H.n + 1, ?_, ?_, by omega, by simp, by rw [show H.n + 1 = (H.push (.lst [.tup [.int hs, .int 0]])).n from rfl, Hm.push_same]⟩
  · simp only [P.F_way_of, way_body, Sms.of_cons, Sms.of_nil, evSs_cons, evSs_nil]
    rw [show startW 8 [W.ref ch, .int hs, .int hs] = [some (.ref ch), some (.int hs), some (.int hs), none, none, none, none, none] from rfl]
    have s4 : evS (T.cf (run T (d + 2))) (.set (.one 3) (.meth (.loc 0) 6 .nil)) [some (.ref ch), some (.int hs), some (.int hs), none, none, none, none, none] h = .nx [some (.ref ch), some (.int hs), some (.int hs), some (.ref h.n), none, none, none, none] (h.push (.lst [])) := by
      simp [u_fldW, h1, b1]
    rw [s4, F.seq_nx]
    simp [b2, u_notin, u_inR, u_dgetR, keyOf, Hm.push_g, nl]
    rw [← qH, ← qσ]
    rw [wl, F.seq_nx]
    have e5 : σ[5]? = some (some (.ref (h.n + 1 + 1 + 1 + 1))) := by rw [qσ]; rfl
    simp [e5, tu, cm, so]
  · rw [qH]
    repeat (first | exact Fr.refl | apply Fr.push)
end
end Mn
end
section
set_option Elab.async false
set_option linter.all false
set_option maxRecDepth 100000
set_option maxHeartbeats 4000000
namespace Mn
open PySem L2
structure PS where
  a : Nat
  ln : Nat
  cl : Nat
  ch : Nat
  kn : Nat
  out : Nat
  rw : Nat
  tl : Nat
  hs : Nat
  done : Nat
  made : Nat
  nn : Nat
  nms : List W
  os : List W
  rs : List W
  gr : Bool
def oPost (p : PS) : O := .ins 11 [(50, .int p.hs), (51, .ref p.ln), (52, .int p.done), (53, .int p.made), (54, .ref p.cl), (55, .ref p.ch), (56, .int p.nn), (57, .ref p.out), (58, .ref p.rw), (59, .ref p.tl), (60, .bl p.gr)]
def PS.cells (p : PS) : List (Nat × O) := [(p.a, oPost p), (p.ln, .lst []), (p.ch, .ins 1 [(5, .ref p.kn)]), (p.kn, .dK [(.inl (p.hs : Int), news1 p.hs p.nn p.nms)]), (p.out, .lst p.os), (p.rw, .lst p.rs)]
structure Free (h : Hm) : Prop where
  lo : h.lo = 0
  lk : h.lk = []
theorem Free.of {A : List Nat} {h h' : Hm} (f : Free h) (x : Fr A h h') : Free h' := ⟨x.lo.trans f.lo, x.lk.trans f.lk⟩
theorem Upd.free {h h' : Hm} {cs cs' : List (Nat × O)} (u : Upd h h' cs cs') (f : Free h) : Free h' := f.of u.fr
structure PFacts (h : Hm) (p : PS) : Prop where
  a : h.g p.a = some (oPost p)
  ln : h.g p.ln = some (.lst [])
  ch : h.g p.ch = some (.ins 1 [(5, .ref p.kn)])
  kn : h.g p.kn = some (.dK [(.inl (p.hs : Int), news1 p.hs p.nn p.nms)])
  out : h.g p.out = some (.lst p.os)
  rw : h.g p.rw = some (.lst p.rs)
  la : p.a < h.n
  lln : p.ln < h.n
  lch : p.ch < h.n
  lkn : p.kn < h.n
  lout : p.out < h.n
  lrw : p.rw < h.n
theorem Has.post {h : Hm} {p : PS} (x : Has h p.cells) : PFacts h p := by
  have g : ∀ c, c ∈ p.cells → c.1 < h.n ∧ h.g c.1 = some c.2 := x.2
  exact ⟨(g (p.a, oPost p) (by simp [PS.cells])).2, (g (p.ln, .lst []) (by simp [PS.cells])).2, (g (p.ch, .ins 1 [(5, .ref p.kn)]) (by simp [PS.cells])).2, (g (p.kn, .dK [(.inl (p.hs : Int), news1 p.hs p.nn p.nms)]) (by simp [PS.cells])).2, (g (p.out, .lst p.os) (by simp [PS.cells])).2, (g (p.rw, .lst p.rs) (by simp [PS.cells])).2,
    (g (p.a, oPost p) (by simp [PS.cells])).1, (g (p.ln, .lst []) (by simp [PS.cells])).1, (g (p.ch, .ins 1 [(5, .ref p.kn)]) (by simp [PS.cells])).1, (g (p.kn, .dK [(.inl (p.hs : Int), news1 p.hs p.nn p.nms)]) (by simp [PS.cells])).1, (g (p.out, .lst p.os) (by simp [PS.cells])).1, (g (p.rw, .lst p.rs) (by simp [PS.cells])).1⟩
theorem Upd.fst {h : Hm} {a : Nat} {o o' : O} {cs : List (Nat × O)} (x : Has h ((a, o) :: cs)) : Upd h (h.put a o') ((a, o) :: cs) ((a, o') :: cs) := Upd.put x
section
variable {T : Tx} [Lib1 T] {d : Nat} {h : Hm} {p : PS}
theorem c_ask_house {n : Nat} (hn : n < 32) : run T (d + 1) 121 [.int n] h = .ok .non h := by
  have a1 : ¬ ((n : Int) < 0) := by omega
  have a2 : ¬ ((31 : Int) < n) := by omega
  refine run_pure_old (Lib1.f121 (T := T)) rfl rfl ?_ rfl
  simp [P.F_ask_house, P.b_ask_house, startW, a1, a2]
theorem c_row_tick (x : PFacts h p) : run T (d + 1) 133 [.ref p.a] h = .ok (.int ((p.done - 1 : Nat) : Int)) h := by
  refine run_pure_old (Lib1.f133 (T := T)) rfl rfl ?_ rfl
  have e : (if (p.done : Int) - 1 > 0 then (p.done : Int) - 1 else 0) = ((p.done - 1 : Nat) : Int) := by
    split <;> omega
  simp [P.F_Post_row_tick, P.b_Post_row_tick, startW, u_fldW, x.a, oPost]
  simpa using e
theorem c_own_letter {kind : Str} {about body : List Nat} (x : Has h p.cells) (f : Free h) (h1 : p.made ≤ 900000) (h2 : p.hs < 32) (hk : ∀ h, cmpW .notin (.str kind) P.g_KINDS h = some false) (h3 : about.length ≤ 4) (h4 : body.length ≤ 56) (h5 : ∀ x ∈ about, x < 97) (h6 : ∀ x ∈ body, x < 97) :
    ∃ h', run T (d + 3) 135 [.ref p.a, .tup [.int p.hs], .str kind, .tup (nts about), .tup (nts body)] h = .ok (lett p.made p.hs kind about body) h' ∧ Upd h h' p.cells ({ p with made := p.made + 1 } : PS).cells := by
  have x0 := x.post
  refine ⟨h.put p.a (oPost { p with made := p.made + 1 }), ?_, Upd.put x⟩
  rw [run_fn (Lib1.f135 (T := T)) rfl rfl]
  have b1 : run T (d + 2) 81 [.int p.made, .tup [.int p.hs], .str kind, .tup (nts about), .tup (nts body)] h = .ok (lett p.made p.hs kind about body) h := c_made_letter h1 h2 hk h3 h4 h5 h6
  simp [P.F_Post_own_letter, P.b_Post_own_letter, startW, u_fldW, x0.a, oPost, b1, f.lo]
theorem c_enter {word : Str} {l : W} (x : Has h p.cells) (f : Free h) (hl : p.rs.length < line) :
    ∃ h', run T (d + 2) 134 [.ref p.a, .str word, l] h = .ok .non h' ∧ Upd h h' p.cells ({ p with rs := p.rs ++ [.tup [.int ((p.done - 1 : Nat) : Int), .str word, l]] } : PS).cells := by
  have x0 := x.post
  refine ⟨h.put p.rw (.lst (p.rs ++ [.tup [.int ((p.done - 1 : Nat) : Int), .str word, l]])), ?_, Upd.mid [(p.a, oPost p), (p.ln, .lst []), (p.ch, .ins 1 [(5, .ref p.kn)]), (p.kn, .dK [(.inl (p.hs : Int), news1 p.hs p.nn p.nms)]), (p.out, .lst p.os)] x⟩
  rw [run_fn (Lib1.f134 (T := T)) rfl rfl]
  have b1 : run T (d + 1) 133 [.ref p.a] h = .ok (.int ((p.done - 1 : Nat) : Int)) h := c_row_tick x0
  have xa := x0.a
  simp only [oPost] at xa
  have sl : ∀ (y : W), setL h p.rw (p.rs ++ [y]) .non = .ok .non (h.put p.rw (.lst (p.rs ++ [y]))) := fun y => u_setL (by rw [f.lo]; exact Nat.zero_le _) (by simp; omega)
  simp [P.F_Post_enter, P.b_Post_enter, startW, u_fldW, xa, x0.rw, b1, u_kindR, u_app, sl]
def PS.sent (p : PS) (kind : Str) (about body : List Nat) : PS := { p with made := p.made + 1, rs := p.rs ++ [.tup [.int ((p.done - 1 : Nat) : Int), .str (Str.ofString "put"), lett p.made p.hs kind about body]], os := p.os ++ [lett p.made p.hs kind about body] }
theorem c_post {kind : Str} {about body : List Nat} (x : Has h p.cells) (f : Free h) (h1 : p.made ≤ 900000) (h2 : p.hs < 32) (hk : ∀ h, cmpW .notin (.str kind) P.g_KINDS h = some false) (hn : kind ≠ Str.ofString "news") (h3 : about.length ≤ 4) (h4 : body.length ≤ 56) (h5 : ∀ x ∈ about, x < 97) (h6 : ∀ x ∈ body, x < 97) (hr : p.rs.length < line) (ho : p.os.length < line) :
    ∃ h', run T (d + 5) 145 [.ref p.a, .int p.hs, .str kind, .tup (nts about), .tup (nts body)] h = .ok (lett p.made p.hs kind about body) h' ∧ Upd h h' p.cells (p.sent kind about body).cells := by
  have x0 := x.post
  obtain ⟨h1', y, e1, fr1, y1, y2, y3⟩ := c_way (T := T) (d := d + 1) x0.ch x0.kn x0.lch x0.lkn (by rw [f.lo]; exact Nat.zero_le _) f.lk
  have u1 : Upd h h1' p.cells p.cells := Upd.of_fr x fr1
  have f1 := u1.free f
  have x1 := u1.has.post
  obtain ⟨h2', e2, u2⟩ := c_own_letter (T := T) (d := d + 1) (kind := kind) (about := about) (body := body) u1.has f1 h1 h2 hk h3 h4 h5 h6
  have f2 := u2.free f1
  obtain ⟨h3', e3, u3⟩ := c_enter (T := T) (d := d + 2) (word := Str.ofString "put") (l := lett p.made p.hs kind about body) u2.has f2 hr
  have e3 : run T (d + 4) 134 [.ref p.a, .str (Str.ofString "put"), lett p.made p.hs kind about body] h2' = .ok .non h3' := e3
  have f3 := u3.free f2
  have x3 := u3.has.post
  have u4 : Upd h3' (h3'.put p.out (.lst (p.os ++ [lett p.made p.hs kind about body]))) _ (p.sent kind about body).cells := Upd.mid [(p.a, oPost { p with made := p.made + 1 }), (p.ln, .lst []), (p.ch, .ins 1 [(5, .ref p.kn)]), (p.kn, .dK [(.inl (p.hs : Int), news1 p.hs p.nn p.nms)])] (a := p.out) (o := .lst p.os) (post := [(p.rw, .lst (p.rs ++ [.tup [.int ((p.done - 1 : Nat) : Int), .str (Str.ofString "put"), lett p.made p.hs kind about body]]))]) u3.has
  have x4 := u4.has.post
  refine ⟨_, ?_, ((u1.trans u2).trans u3).trans u4⟩
  rw [run_fn (Lib1.f145 (T := T)) rfl rfl]
  have b1 : run T (d + 4) 121 [.int p.hs] h = .ok .non h := c_ask_house h2
  have b2 : run T (d + 4) 81 [.int 0, .tup [.int p.hs], .str kind, .tup (nts about), .tup (nts body)] h = .ok (lett 0 p.hs kind about body) h := c_made_letter (n := 0) (by omega) h2 hk h3 h4 h5 h6
  have xa := x0.a
  have xa1 := x1.a
  have xa2 := u2.has.post.a
  have xa3 := x3.a
  have xo3 : h3'.g p.out = some (.lst p.os) := x3.out
  have sl : setL h3' p.out (p.os ++ [lett p.made p.hs kind about body]) .non = .ok .non (h3'.put p.out (.lst (p.os ++ [lett p.made p.hs kind about body]))) := u_setL (by rw [f3.lo]; exact Nat.zero_le _) (by simp; omega)
  revert sl x4 u4
  generalize h3'.put p.out (.lst (p.os ++ [lett p.made p.hs kind about body])) = h4'
  intro u4 x4 sl
  have xa4 := x4.a
  have xl4 : h4'.g p.ln = some (.lst []) := x4.ln
  simp only [oPost, PS.sent] at xa xa1 xa2 xa3 xa4
  have ws : Str.ofString "way" ≠ Str.ofString "side" := by decide +kernel
  simp [P.F_Post_post, P.b_Post_post, startW, ws, b1, b2, hn, u_fldW, xa, e1, u_subT, ixn, xa1, xa2, e2, e3, xa3, xo3, u_kindR, u_app, sl, evS_for, toLock_ref, xa4, xl4, u_planR, u_planLR, forL, u_stays]
end
end Mn
end
section
set_option Elab.async false
set_option linter.all false
set_option maxRecDepth 100000
set_option maxHeartbeats 4000000
namespace Mn
open PySem L2
section
variable {T : Tx} [Lib1 T] {d : Nat} {h : Hm} {p : PS}
theorem c_number (x : PFacts h p) : run T (d + 1) 143 [.ref p.a] h = .ok (.int p.hs) h := by
  refine run_pure_old (Lib1.f143 (T := T)) rfl rfl ?_ rfl
  simp [P.F_Post_number, P.b_Post_number, startW, u_fldW, x.a, oPost]
theorem c_grew (x : Has h p.cells) (f : Free h) : ∃ h', run T (d + 1) 147 [.ref p.a] h = .ok (.bl p.gr) h' ∧ Upd h h' p.cells ({ p with gr := false } : PS).cells := by
  have xa := x.post.a
  refine ⟨h.put p.a (oPost { p with gr := false }), ?_, Upd.put x⟩
  rw [run_fn (Lib1.f147 (T := T)) rfl rfl]
  simp only [oPost] at xa
  simp [P.F_Post_grew, P.b_Post_grew, startW, u_fldW, xa, oPost, f.lo]
theorem c_came (x : Has h p.cells) (f : Free h) : ∃ h' b, run T (d + 1) 146 [.ref p.a] h = .ok (.ref p.out) h' ∧ Upd h h' p.cells (({ p with out := b, os := [] } : PS).cells ++ [(p.out, .lst p.os)]) := by
  have x0 := x.post
  have xa := x0.a
  have ne : p.a ≠ h.n := by have := x0.la; omega
  have u1 : Upd h (h.push (.lst [])) p.cells ((h.n, .lst []) :: p.cells) := Upd.add x
  have u2 : Upd (h.push (.lst [])) ((h.push (.lst [])).put p.a (oPost { p with out := h.n })) ((h.n, .lst []) :: p.cells) _ := Upd.mid [(h.n, .lst [])] u1.has
  refine ⟨(h.push (.lst [])).put p.a (oPost { p with out := h.n }), h.n, ?_, (u1.trans u2).perm (List.Perm.refl _) ?_⟩
  · rw [run_fn (Lib1.f146 (T := T)) rfl rfl]
    simp only [oPost] at xa
    have nl : ∀ (h : Hm), newL [] h = .ok (.ref h.n) (h.push (.lst [])) := fun h => newL_eq (by decide)
    simp [P.F_Post_came, P.b_Post_came, startW, u_fldW, xa, oPost, f.lo, nl, Hm.push_g, ne]
  · show ((h.n, O.lst []) :: ([(p.a, _), (p.ln, _), (p.ch, _), (p.kn, _)] ++ [(p.out, _), (p.rw, _)])).Perm _
    refine (List.perm_middle (l₁ := [(p.a, _), (p.ln, _), (p.ch, _), (p.kn, _)])).symm.trans ?_
    exact List.Perm.append_left _ (List.Perm.cons _ (List.Perm.swap _ _ _))
theorem c_tick (x : Has h p.cells) (f : Free h) {c : Nat} (hc : h.g c = some (.lst [])) (hcn : c < h.n) (hco : c ∉ p.cells.map (·.1)) : ∃ h' r, run T (d + 2) 144 [.ref p.a, .ref c] h = .ok (.ref r) h' ∧ Upd h h' p.cells ({ p with done := p.done + 1 } : PS).cells := by
  have x0 := x.post
  have u1 : Upd h (h.put p.a (oPost { p with done := p.done + 1 })) p.cells ({ p with done := p.done + 1 } : PS).cells := Upd.put x
  have nl : ∀ (h : Hm), newL [] h = .ok (.ref h.n) (h.push (.lst [])) := fun h => newL_eq (by decide)
  have xa := x0.a
  have f1 := u1.free f
  obtain ⟨h1, eh⟩ : ∃ h1, h1 = h.put p.a (oPost { p with done := p.done + 1 }) := ⟨_, rfl⟩
  rw [← eh] at u1 f1
  have x1 := u1.has.post
  have c1 : h1.g c = some (.lst []) := by
    rw [u1.fr.g c hcn hco]
    exact hc
  have c2 : c < h1.n := Nat.lt_of_lt_of_le hcn u1.fr.n
  have x1a := x1.a
  have x1l : h1.g p.ln = some (.lst []) := x1.ln
  have n1 : p.a ≠ h1.n := by have : p.a < h1.n := x1.la; omega
  have n2 : p.ln ≠ h1.n := by have : p.ln < h1.n := x1.lln; omega
  have n3 : c ≠ h1.n := by omega
  have n4 : p.a ≠ h1.n + 1 := by have : p.a < h1.n := x1.la; omega
  have n5 : p.ln ≠ h1.n + 1 := by have : p.ln < h1.n := x1.lln; omega
  have fr : Fr [] h1 (((h1.push (.lst [])).push (.lst [])).push (.lst [])) := by repeat (first | exact Fr.refl | apply Fr.push)
  refine ⟨((h1.push (.lst [])).push (.lst [])).push (.lst []), h1.n + 2, ?_, u1.trans (Upd.of_fr u1.has fr)⟩
  rw [run_fn (Lib1.f144 (T := T)) rfl rfl]
  have gr : ∀ h2 : Hm, h2.g p.a = some (oPost { p with done := p.done + 1 }) → h2.g p.ln = some (.lst []) → run T (d + 1) 142 [.ref p.a] h2 = .ok .non h2 := fun h2 ea el => by
    rw [run_fn (Lib1.f142 (T := T)) rfl rfl]
    simp [P.F_Post_greet, P.b_Post_greet, startW, evS_for, u_fldW, ea, el, oPost, toLock_ref, u_planR, u_planLR, forL, u_stays]
  have gr2 := gr ((h1.push (.lst [])).push (.lst [])) (by simp [Hm.push_g, n1, n4, x1a]) (by simp [Hm.push_g, n2, n5, x1l])
  simp only [oPost] at xa x1a eh gr2
  push_cast at x1a eh gr2
  simp [P.F_Post_tick, P.b_Post_tick, startW, evS_for, u_fldW, xa, f.lo, ← eh, x1a, x1l, c1, u_planLR, u_planR, toLock_ref, zipL, u_stays, compL, forL, nl, Hm.push_g, n1, n2, n3, n4, n5, gr2]
end
end Mn
end
section
set_option Elab.async false
set_option linter.all false
set_option maxRecDepth 100000
set_option maxHeartbeats 4000000
namespace Mn
open PySem L2
section
variable {h : Hm} {o o1 o2 o3 o4 : O} {a : Nat}
theorem put_push_ne (e : a ≠ h.n) : (h.push o1).put a o = (h.put a o).push o1 := by
  unfold Hm.put Hm.push
  congr 1
  funext b
  dsimp only
  by_cases q : b = a
  · rw [if_pos q, if_pos q, if_neg (by rw [q]; exact e)]
  · rw [if_neg q, if_neg q]
theorem put_push1 : (h.push o1).put h.n o = h.push o := put_push
theorem put_push2 : ((h.push o1).push o2).put h.n o = (h.push o).push o2 := by
  rw [put_push_ne (by simp), put_push]
theorem put_push3 : (((h.push o1).push o2).push o3).put h.n o = ((h.push o).push o2).push o3 := by
  rw [put_push_ne (by simp), put_push2]
theorem put_push4 : ((((h.push o1).push o2).push o3).push o4).put h.n o = (((h.push o).push o2).push o3).push o4 := by
  rw [put_push_ne (by simp), put_push3]
theorem put_push21 : ((h.push o1).push o2).put (h.n + 1) o = (h.push o1).push o := put_push (h0 := h.push o1)
theorem put_push32 : (((h.push o1).push o2).push o3).put (h.n + 1) o = ((h.push o1).push o).push o3 := put_push2 (h := h.push o1)
theorem put_push43 : ((((h.push o1).push o2).push o3).push o4).put (h.n + 1) o = (((h.push o1).push o).push o3).push o4 := put_push3 (h := h.push o1)
end
section
variable {T : Tx} [Lib1 T] {d : Nat} {h : Hm} {p : PS}
theorem c_copy {ch kn hs nn : Nat} {nms : List W} (h1 : h.g ch = some (.ins 1 [(5, .ref kn)])) (h2 : h.g kn = some (.dK [(.inl (hs : Int), news1 hs nn nms)])) (hc : ch < h.n) (hk : kn < h.n) (f : Free h) :
    run T (d + 2) 27 [.ref ch] h = .ok (.ref h.n) ((h.push (.ins 1 [(5, .ref (h.n + 1))])).push (.dK [(.inl (hs : Int), news1 hs nn nms)])) := by
  rw [run_fn (Lib1.f27 (T := T)) rfl rfl]
  have e1 : ch ≠ h.n := by omega
  have e2 : ch ≠ h.n + 1 := by omega
  have e3 : kn ≠ h.n := by omega
  have e4 : kn ≠ h.n + 1 := by omega
  have b1 : run T (d + 1) 21 [.ref h.n] (h.push (.ins 1 [])) = .ok .non ((h.push (.ins 1 [(5, .ref (h.n + 1))])).push (.dK [])) := by
    rw [run_fn (Lib1.f21 (T := T)) rfl rfl]
    simp [P.F_Map___init__, P.b_Map___init__, startW, u_fldW, f.lo, Hm.push_g, put_push2]
  have b2 : run T (d + 1) 22 [.ref h.n, news1 hs nn nms] (((h.push (.ins 1 [(5, .ref (h.n + 1))])).push (.dK [])).lock kn) = .ok (.bl true) (((h.push (.ins 1 [(5, .ref (h.n + 1))])).push (.dK [(.inl (hs : Int), news1 hs nn nms)])).lock kn) := by
    rw [run_fn (Lib1.f22 (T := T)) rfl rfl]
    have e5 : h.n + 1 ≠ kn := fun q => e4 q.symm
    simp [P.F_Map_hear, P.b_Map_hear, startW, u_fldW, f.lo, f.lk, Hm.push_g, news1, u_subT, ixn, u_isin, u_inR, u_dgetR, keyOf, u_sett, setD, e5, putD, put_push21, line]
  simp [P.F_Map_copy, P.b_Map_copy, startW, evS_for, u_fldW, b1, h1, h2, Hm.push_g, e1, e2, e3, e4, toLock_ref]
  rw [withLock_some (by simp [f.lk]) (by simp; omega) (by simp [Hm.push_g, e3, e4, h2])]
  simp [u_fldW, u_planR, Hm.push_g, e1, e2, e3, e4, h1, h2, forL, u_stays, wOf, u_subR, u_dgetR, keyOf, b2]
theorem c_map_now (x : PFacts h p) (f : Free h) : ∃ h' m k, run T (d + 3) 150 [.ref p.a] h = .ok (.ref m) h' ∧ Fr [] h h' ∧ h'.g m = some (.ins 1 [(5, .ref k)]) ∧ h'.g k = some (.dK [(.inl (p.hs : Int), news1 p.hs p.nn p.nms)]) ∧ m < h'.n ∧ k < h'.n := by
  have b1 : run T (d + 2) 27 [.ref p.ch] h = _ := c_copy x.ch x.kn x.lch x.lkn f
  have xa := x.a
  have xc := x.ch
  simp only [oPost] at xa
  refine ⟨_, h.n, h.n + 1, ?_, ((Fr.refl (A := [])).push (o := .ins 1 [(5, .ref (h.n + 1))])).push (o := .dK [(.inl (p.hs : Int), news1 p.hs p.nn p.nms)]), ?_, ?_, ?_, ?_⟩
  · rw [run_fn (Lib1.f150 (T := T)) rfl rfl]
    simp [P.F_Post_map_now, P.b_Post_map_now, startW, u_fldW, xa, xc, b1]
  · simp [Hm.push_g]
  · simp [Hm.push_g]
  · simp
  · simp
end
structure WS where
  a : Nat
  pl : Nat
  ps : List (Nat × List Nat)
  fx : Nat
  kn : Nat
  cl : Bool
def oW (w : WS) : O := .ins 2 [(7, .ref w.pl), (8, .int w.fx), (9, .int w.kn), (10, .bl w.cl)]
def pcs (ps : List (Nat × List Nat)) : List (Nat × O) := ps.map fun p => (p.1, .lst (nts p.2))
def prs (ps : List (Nat × List Nat)) : List W := ps.map fun p => .ref p.1
def WS.cells (w : WS) : List (Nat × O) := (w.a, oW w) :: (w.pl, .lst (prs w.ps)) :: pcs w.ps
structure WFacts (h : Hm) (w : WS) : Prop where
  a : h.g w.a = some (.ins 2 [(7, .ref w.pl), (8, .int w.fx), (9, .int w.kn), (10, .bl w.cl)])
  pl : h.g w.pl = some (.lst (prs w.ps))
  la : w.a < h.n
  lpl : w.pl < h.n
  p : ∀ q, q ∈ w.ps → h.g q.1 = some (.lst (nts q.2)) ∧ q.1 < h.n
theorem Has.writer {h : Hm} {w : WS} (x : Has h w.cells) : WFacts h w := by
  refine ⟨(x.2 _ List.mem_cons_self).2, (x.2 _ (List.mem_cons_of_mem _ List.mem_cons_self)).2, (x.2 _ List.mem_cons_self).1, (x.2 _ (List.mem_cons_of_mem _ List.mem_cons_self)).1, fun q m => ?_⟩
  have := x.2 (q.1, .lst (nts q.2)) (List.mem_cons_of_mem _ (List.mem_cons_of_mem _ (List.mem_map.mpr ⟨q, m, rfl⟩)))
  exact ⟨this.2, this.1⟩
theorem prs_len (ps : List (Nat × List Nat)) : (prs ps).length = ps.length := List.length_map _
section
variable {T : Tx} [Lib1 T] {d : Nat} {h : Hm} {w : WS}
theorem c_left (x : WFacts h w) : run T (d + 1) 44 [.ref w.a] h = .ok (.int ((w.ps.length : Int) - w.kn)) h := by
  refine run_pure_old (Lib1.f44 (T := T)) rfl rfl ?_ rfl
  simp [P.F_Writer_left, P.b_Writer_left, startW, u_fldW, x.a, x.pl, u_len, u_lenR, prs_len]
theorem c_is_done (x : WFacts h w) : run T (d + 2) 43 [.ref w.a] h = .ok (.bl (w.cl && decide ((w.ps.length : Int) - w.kn = 0))) h := by
  have b1 : run T (d + 1) 44 [.ref w.a] { h with lo := h.n } = .ok (.int ((w.ps.length : Int) - w.kn)) { h with lo := h.n } := c_left ⟨x.a, x.pl, x.la, x.lpl, x.p⟩
  refine run_pure_old (Lib1.f43 (T := T)) rfl rfl ?_ rfl
  cases e : w.cl <;> simp [P.F_Writer_is_done, P.b_Writer_is_done, startW, u_fldW, x.a, e, b1]
theorem c_last_free (x : WFacts h w) : run T (d + 1) 37 [.ref w.a] h = .ok (.bl (decide ((w.fx : Int) < w.ps.length))) h := by
  refine run_pure_old (Lib1.f37 (T := T)) rfl rfl ?_ rfl
  simp [P.F_Writer_last_free, P.b_Writer_last_free, startW, u_fldW, x.a, x.pl, u_len, u_lenR, prs_len]
theorem c_ask_open (x : WFacts h w) (e : w.cl = false) : run T (d + 1) 36 [.ref w.a] h = .ok .non h := by
  rw [run_fn (Lib1.f36 (T := T)) rfl rfl]
  simp [P.F_Writer_ask_open, P.b_Writer_ask_open, startW, u_fldW, x.a, e]
theorem c_had {n : Nat} (x : Has h w.cells) (f : Free h) : ∃ h', run T (d + 1) 42 [.ref w.a, .int n] h = .ok .non h' ∧ Upd h h' w.cells ({ w with kn := max w.kn (min n w.ps.length) } : WS).cells := by
  have x0 := x.writer
  refine ⟨h.put w.a (oW { w with kn := max w.kn (min n w.ps.length) }), ?_, Upd.put x⟩
  rw [run_fn (Lib1.f42 (T := T)) rfl rfl]
  simp [P.F_Writer_had, P.b_Writer_had, startW, u_fldW, x0.a, x0.pl, u_len, u_lenR, prs_len, f.lo, oW]
  have em' : (if (w.kn : Int) < (if w.ps.length < n then (w.ps.length : Int) else n) then (if w.ps.length < n then (w.ps.length : Int) else n) else (w.kn : Int)) = ((max w.kn (min n w.ps.length) : Nat) : Int) := by
    split <;> split at * <;> omega
  rw [em']
end
end Mn
end
section
set_option Elab.async false
set_option linter.all false
set_option maxRecDepth 100000
set_option maxHeartbeats 4000000
namespace Mn
open PySem L2
theorem Upd.tail {h h' : Hm} {cs cs' : List (Nat × O)} {c : Nat × O} (u : Upd h h' cs (c :: cs')) : Upd h h' cs cs' :=
  ⟨⟨(List.nodup_cons.mp u.has.1).2, fun e m => u.has.2 e (List.mem_cons_of_mem _ m)⟩, u.fr, fun e m => u.new e (List.mem_cons_of_mem _ m)⟩
theorem forL_ex {ι : Type} {gd : List (Nat × List W)} {k : ι → W} {f : W → List (Option W) → Hm → F} (I : List ι → List (Option W) → Hm → Prop) (hst : ∀ ys σ h, I ys σ h → stays h gd = true) (hf : ∀ y ys σ h, I (y :: ys) σ h → ∃ σ' h', f (k y) σ h = .nx σ' h' ∧ I ys σ' h') :
    ∀ {ys : List ι} {σ : List (Option W)} {h : Hm}, I ys σ h → ∃ σ' h', forL gd f (ys.map k) σ h = .nx σ' h' ∧ I [] σ' h'
  | [], σ, h, i => ⟨σ, h, by rw [List.map_nil, forL, if_pos (hst _ _ _ i)], i⟩
  | y :: ys, σ, h, i => by
    obtain ⟨σ', h', e, i'⟩ := hf y ys σ h i
    obtain ⟨σ2, h2, e2, i2⟩ := forL_ex I hst hf i'
    refine ⟨σ2, h2, ?_, i2⟩
    rw [List.map_cons, forL, if_pos (hst _ _ _ i), e]
    exact e2
theorem Upd.cons {h h' : Hm} {cs cs' : List (Nat × O)} {c : Nat × O} (u : Upd h h' cs cs') (x : Has h (c :: cs)) : Upd h h' (c :: cs) (c :: cs') :=
  (u.frame (fs := [c]) (x.perm (List.perm_append_comm (l₁ := [c])))).perm (List.perm_append_comm (l₁ := cs)) (List.perm_append_comm (l₁ := cs'))
theorem Has.tail {h : Hm} {cs : List (Nat × O)} {c : Nat × O} (x : Has h (c :: cs)) : Has h cs := ⟨(List.nodup_cons.mp x.1).2, fun e m => x.2 e (List.mem_cons_of_mem _ m)⟩
def addS (fx : Nat) (ps : List (List Nat)) (s : Nat) : List (List Nat) := match ps.getLast? with
  | some l => if ps.length ≤ fx ∨ l.length = 12 then ps ++ [[s]] else ps.dropLast ++ [l ++ [s]]
  | none => [[s]]
theorem pcs_app (a b : List (Nat × List Nat)) : pcs (a ++ b) = pcs a ++ pcs b := List.map_append
theorem prs_app (a b : List (Nat × List Nat)) : prs (a ++ b) = prs a ++ prs b := List.map_append
theorem sub_last {h : Hm} {a : Nat} {xs : List W} {y : W} (e : h.g a = some (.lst (xs ++ [y]))) : Mn.sub (.ref a) (.int (-1)) h = some y := by
  rw [u_subR, e]
  have e2 : ixn (xs.length + 1) (-1) = some xs.length := by
    unfold ixn
    rw [if_neg (by omega), if_pos (by omega)]
    congr 1
    omega
  simp [e2]
section
variable {T : Tx} [Lib1 T] {d : Nat} {h : Hm} {w : WS}
def wbody : Sms := match P.b_Writer_write with
  | .cons _ (.cons (.for _ _ b) _) => b
  | _ => .nil
theorem w_new (x : Has h w.cells) (f : Free h) (hl : w.ps.length < line) {s : Nat} {t y : W} (hn : w.ps.length ≤ w.fx ∨ ∃ i a l, w.ps = i ++ [(a, l)] ∧ l.length = 12) :
    ∃ h', evSs (T.cf (run T (d + 1))) wbody [some (.ref w.a), some t, some (.int s)] h = .nx [some (.ref w.a), some t, some (.int s)] h' ∧ Upd h h' w.cells ({ w with ps := w.ps ++ [(h.n, [s])] } : WS).cells := by
  have x0 := x.writer
  have lf : run T (d + 1) 37 [.ref w.a] h = _ := c_last_free x0
  have n1 : w.a ≠ h.n := by have := x0.la; omega
  have n2 : w.pl ≠ h.n := by have := x0.lpl; omega
  have n3 : w.a ≠ w.pl := by
    have := x.1
    simp [WS.cells] at this
    exact this.1.1
  have u1 : Upd h (h.push (.lst [])) w.cells ((h.n, .lst []) :: w.cells) := Upd.add x
  have u2 : Upd (h.push (.lst [])) ((h.push (.lst [])).put w.pl (.lst (prs w.ps ++ [.ref h.n]))) _ _ := Upd.mid (o' := .lst (prs w.ps ++ [.ref h.n])) [(h.n, .lst []), (w.a, oW w)] u1.has
  have u3 : Upd ((h.push (.lst [])).put w.pl (.lst (prs w.ps ++ [.ref h.n]))) (((h.push (.lst [])).put w.pl (.lst (prs w.ps ++ [.ref h.n]))).put h.n (.lst [.int s])) _ _ := Upd.put u2.has
  have n4 : h.n ≠ w.pl := fun q => n2 q.symm
  refine ⟨_, ?_, ((u1.trans u2).trans u3).perm (List.Perm.refl _) ?_⟩
  · have sl : setL (h.push (.lst [])) w.pl (prs w.ps ++ [.ref h.n]) .non = .ok .non _ := u_setL (by simp [f.lo]) (by simp [prs_len]; omega)
    have nl : newL [] h = .ok (.ref h.n) (h.push (.lst [])) := newL_eq (by decide)
    have sl2 : setL ((h.push (.lst [])).put w.pl (.lst (prs w.ps ++ [.ref h.n]))) h.n [.int s] .non = .ok .non _ := u_setL (by simp [f.lo]) (by simp)
    have sb := sub_last (h := (h.push (.lst [])).put w.pl (.lst (prs w.ps ++ [.ref h.n]))) Hm.put_same
    have gn : ((h.push (.lst [])).put w.pl (.lst (prs w.ps ++ [.ref h.n]))).g h.n = some (.lst []) := by simp [Hm.put_g, Hm.push_g, n4]
    have ga : ((h.push (.lst [])).put w.pl (.lst (prs w.ps ++ [.ref h.n]))).g w.a = _ := (u2.has.2 (w.a, oW w) (by simp)).2
    have gp : (h.push (.lst [])).g w.pl = some (.lst (prs w.ps)) := by simp [Hm.push_g, n2, x0.pl]
    have gd : (if (w.fx : Int) < w.ps.length then True else True) := by split <;> trivial
    revert sl2 sb gn ga u2 u3
    revert sl
    generalize (h.push (.lst [])).put w.pl (.lst (prs w.ps ++ [.ref h.n])) = h2
    intro sl u2 u3 sl2 sb gn ga
    simp only [oW] at ga
    by_cases q : w.ps.length ≤ w.fx
    · have q' : ¬ w.fx < w.ps.length := by omega
      simp [wbody, P.b_Writer_write, u_fldW, x0.a, x0.pl, lf, q', u_kindR, u_app, nl, gp, sl, ga, sb, gn, sl2]
    · have q' : w.fx < w.ps.length := by omega
      obtain ⟨i, a, l, e, l12⟩ := hn.resolve_left q
      have sb0 : Mn.sub (.ref w.pl) (.int (-1)) h = some (.ref a) := sub_last (xs := prs i) (by rw [x0.pl, e, prs_app]; rfl)
      have gl := (x0.p (a, l) (by rw [e]; simp)).1
      simp [wbody, P.b_Writer_write, u_fldW, x0.a, x0.pl, lf, q', u_kindR, u_app, nl, gp, sl, ga, sb, gn, sl2, sb0, u_len, u_lenR, gl, l12]
  · show ((h.n, O.lst [.int s]) :: (w.a, oW w) :: (w.pl, O.lst (prs w.ps ++ [.ref h.n])) :: pcs w.ps).Perm ((w.a, oW w) :: (w.pl, .lst (prs (w.ps ++ [(h.n, [s])]))) :: pcs (w.ps ++ [(h.n, [s])]))
    rw [prs_app, pcs_app]
    exact (List.perm_append_comm (l₁ := [(h.n, O.lst [.int s])]) (l₂ := (w.a, oW w) :: (w.pl, O.lst (prs w.ps ++ [.ref h.n])) :: pcs w.ps))
theorem w_old (x : Has h w.cells) (f : Free h) {s : Nat} {t : W} {i : List (Nat × List Nat)} {a : Nat} {l : List Nat} (e : w.ps = i ++ [(a, l)]) (hx : w.fx < w.ps.length) (hl : l.length < 12) :
    ∃ h', evSs (T.cf (run T (d + 1))) wbody [some (.ref w.a), some t, some (.int s)] h = .nx [some (.ref w.a), some t, some (.int s)] h' ∧ Upd h h' w.cells ({ w with ps := i ++ [(a, l ++ [s])] } : WS).cells := by
  have x0 := x.writer
  have lf : run T (d + 1) 37 [.ref w.a] h = _ := c_last_free x0
  have ec : w.cells = ((w.a, oW w) :: (w.pl, .lst (prs w.ps)) :: pcs i) ++ (a, .lst (nts l)) :: [] := by
    unfold WS.cells
    rw [e, pcs_app]
    rfl
  have u1 : Upd h (h.put a (.lst (nts (l ++ [s])))) w.cells (((w.a, oW w) :: (w.pl, .lst (prs w.ps)) :: pcs i) ++ (a, .lst (nts (l ++ [s]))) :: []) := by
    rw [ec]
    exact Upd.mid _ (by rw [← ec]; exact x)
  have ec2 : ({ w with ps := i ++ [(a, l ++ [s])] } : WS).cells = ((w.a, oW w) :: (w.pl, .lst (prs w.ps)) :: pcs i) ++ (a, .lst (nts (l ++ [s]))) :: [] := by
    unfold WS.cells
    rw [pcs_app, e, prs_app]
    show _ = (w.a, oW w) :: (w.pl, .lst (prs (i ++ [(a, l)]))) :: _
    rw [prs_app]
    rfl
  refine ⟨_, ?_, by rw [ec2]; exact u1⟩
  have sb0 : Mn.sub (.ref w.pl) (.int (-1)) h = some (.ref a) := sub_last (xs := prs i) (by rw [x0.pl, e, prs_app]; rfl)
  have gl := (x0.p (a, l) (by rw [e]; simp)).1
  have sl : setL h a (nts l ++ [.int s]) .non = .ok .non _ := u_setL (by simp [f.lo]) (by simp [line]; omega)
  have l12 : ¬ ((l.length : Int) = 12) := by omega
  have en : nts (l ++ [s]) = nts l ++ [.int s] := by simp
  rw [en]
  simp [wbody, P.b_Writer_write, u_fldW, x0.a, x0.pl, lf, hx, u_kindR, u_app, sb0, u_len, u_lenR, gl, l12, sl]
def WS.pp (w : WS) : List (List Nat) := w.ps.map (·.2)
theorem addS_nil {fx s : Nat} : addS fx [] s = [[s]] := rfl
theorem addS_app {fx s : Nat} {i : List (List Nat)} {l : List Nat} : addS fx (i ++ [l]) s = if i.length + 1 ≤ fx ∨ l.length = 12 then (i ++ [l]) ++ [[s]] else i ++ [l ++ [s]] := by
  unfold addS
  simp
theorem addS_len {fx : Nat} {ps : List (List Nat)} {s : Nat} : ps.length ≤ (addS fx ps s).length ∧ (addS fx ps s).length ≤ ps.length + 1 := by
  rcases List.eq_nil_or_concat ps with e | ⟨i, l, e⟩
  · subst e
    simp [addS_nil]
  · rw [List.concat_eq_append] at e
    subst e
    rw [addS_app]
    split <;> simp
theorem w_step (x : Has h w.cells) (f : Free h) (hl : w.ps.length < line) (hp : ∀ p, p ∈ w.pp → p.length ≤ 12) {s : Nat} {t y : W} :
    ∃ h' ps', evSs (T.cf (run T (d + 1))) wbody [some (.ref w.a), some t, some (.int s)] h = .nx [some (.ref w.a), some t, some (.int s)] h' ∧ Upd h h' w.cells ({ w with ps := ps' } : WS).cells ∧ ps'.map (·.2) = addS w.fx w.pp s := by
  rcases List.eq_nil_or_concat w.ps with e | ⟨i, ⟨a, l⟩, e⟩
  · obtain ⟨h', e1, u⟩ := w_new (T := T) (d := d) (s := s) (t := t) (y := y) x f hl (.inl (by rw [e]; exact Nat.zero_le _))
    refine ⟨h', _, e1, u, ?_⟩
    simp [WS.pp, e, addS]
  · rw [List.concat_eq_append] at e
    by_cases q : w.ps.length ≤ w.fx ∨ l.length = 12
    · obtain ⟨h', e1, u⟩ := w_new (T := T) (d := d) (s := s) (t := t) (y := y) x f hl (q.imp id fun q => ⟨i, a, l, e, q⟩)
      refine ⟨h', _, e1, u, ?_⟩
      have q2 : i.length + 1 ≤ w.fx ∨ l.length = 12 := by simpa [e] using q
      simp [WS.pp, e, addS, q2]
    · have l12 : l.length ≤ 12 := hp l (by simp [WS.pp, e])
      obtain ⟨h', e1, u⟩ := w_old (T := T) (d := d) (s := s) (t := t) x f e (by omega) (by omega)
      refine ⟨h', _, e1, u, ?_⟩
      have q2 : ¬ (i.length + 1 ≤ w.fx ∨ l.length = 12) := by simpa [e] using q
      simp [WS.pp, e, addS, q2]
theorem addS_small {fx : Nat} {ps : List (List Nat)} {s : Nat} (hp : ∀ p, p ∈ ps → p.length ≤ 12) : ∀ p, p ∈ addS fx ps s → p.length ≤ 12 := by
  rcases List.eq_nil_or_concat ps with e | ⟨i, l, e⟩
  · subst e
    simp [addS_nil]
  · rw [List.concat_eq_append] at e
    subst e
    rw [addS_app]
    have l12 := hp l (by simp)
    intro p m
    by_cases q : i.length + 1 ≤ fx ∨ l.length = 12
    · rw [if_pos q] at m
      rcases List.mem_append.mp m with m | m
      · exact hp p m
      · simp at m
        simp [m]
    · rw [if_neg q] at m
      rcases List.mem_append.mp m with m | m
      · exact hp p (List.mem_append_left _ m)
      · simp at m
        subst m
        simp
        omega
theorem c_write (x : Has h w.cells) (f : Free h) (hw : w.cl = false) (hl : w.ps.length + 100000 < line) (hp : ∀ p, p ∈ w.pp → p.length ≤ 12) {t : Str} (hc : ∀ c ∈ t.cps.toList, c ∈ codes) (ht : t.cps.size ≤ 100000) :
    ∃ h' ps', run T (d + 3) 38 [.ref w.a, .str t] h = .ok .non h' ∧ Upd h h' w.cells ({ w with ps := ps' } : WS).cells ∧ ps'.map (·.2) = (t.cps.toList.map sg).foldl (addS w.fx) w.pp := by
  have x0 := x.writer
  have b1 : run T (d + 2) 36 [.ref w.a] h = .ok .non h := c_ask_open x0 hw
  have b2 : run T (d + 2) 5 [.str t] h = .ok (.ref h.n) (h.push (.lst (nts (t.cps.toList.map sg)))) := c_text_signs hc (by simp [line]; omega)
  have tl : (t.cps.toList.map sg).length ≤ 100000 := by simp; omega
  revert b2 tl
  generalize t.cps.toList.map sg = L
  intro b2 tl
  have u1 : Upd h (h.push (.lst (nts L))) w.cells ((h.n, .lst (nts L)) :: w.cells) := Upd.add x
  let I : List Nat → List (Option W) → Hm → Prop := fun ys σ h' => ∃ y ps', σ = [some (.ref w.a), some (.str t), y] ∧ Upd h h' w.cells ((h.n, .lst (nts L)) :: ({ w with ps := ps' } : WS).cells) ∧ (ps'.length + ys.length < line ∧ (∀ p, p ∈ ps'.map (·.2) → p.length ≤ 12) ∧ ys.foldl (addS w.fx) (ps'.map (·.2)) = L.foldl (addS w.fx) w.pp)
  have hI : I L [some (.ref w.a), some (.str t), none] (h.push (.lst (nts L))) := ⟨none, w.ps, rfl, u1, by omega, hp, rfl⟩
  obtain ⟨σ', h', e, ⟨y, ps', rfl, u, _, _, e3⟩⟩ := forL_ex (gd := [(h.n, nts L)]) (k := fun i : Nat => W.int i) (f := fun x σ h => evSs (T.cf (run T (d + 2))) wbody (σ.set 2 (some x)) h) I (fun ys σ h' i => by
        obtain ⟨y, ps', rfl, u, _⟩ := i
        exact stays_one (u.has.2 _ List.mem_cons_self).2) (fun s ys σ h' i => by
        obtain ⟨y, ps', rfl, u, i1, i2, i3⟩ := i
        obtain ⟨h2, ps2, e1, u2, e2⟩ := w_step (T := T) (d := d + 1) (w := { w with ps := ps' }) (s := s) (t := .str t) (y := .non) u.has.tail (u.free f) (by simp at i1 ⊢; omega) i2
        have ln : ps2.length ≤ ps'.length + 1 := by
          have := congrArg List.length e2
          have z := (addS_len (fx := w.fx) (ps := ps'.map (·.2)) (s := s)).2
          simp only [List.length_map] at this z
          rw [this]
          exact z
        exact ⟨_, h2, e1, _, ps2, rfl, u.trans (u2.cons u.has), by simp at i1 ⊢; omega, by rw [e2]; exact addS_small i2, by rw [e2]; exact i3⟩) hI
  refine ⟨h', ps', ?_, u.tail, e3⟩
  rw [run_fn (Lib1.f38 (T := T)) rfl rfl]
  have eb : P.b_Writer_write = .of [.expr (.meth (.loc 0) 63 .nil), .for (.one 2) (.val (.call 5 (.of [.loc 1]))) wbody] := rfl
  have e' : forL [(h.n, nts L)] (fun x σ h => evSs (T.cf (run T (d + 2))) wbody (σ.set 2 (some x)) h) (nts L) [some (.ref w.a), some (.str t), none] (h.push (.lst (nts L))) = .nx [some (.ref w.a), some (.str t), y] h' := e
  simp [P.F_Writer_write, eb, startW, b1, b2, evS_for, toLock_ref, u_planR, u_planLR, x0.a, e']
theorem c_close (x : Has h w.cells) (f : Free h) (hw : w.cl = false) (hl : w.ps.length < line) :
    ∃ h' ps', run T (d + 3) 39 [.ref w.a] h = .ok .non h' ∧ Upd h h' w.cells ({ w with ps := ps', cl := true } : WS).cells ∧ ps'.map (·.2) = if w.fx < w.ps.length then w.pp else w.pp ++ [[]] := by
  have x0 := x.writer
  have b1 : run T (d + 2) 36 [.ref w.a] h = .ok .non h := c_ask_open x0 hw
  have b2 : run T (d + 2) 37 [.ref w.a] h = _ := c_last_free x0
  by_cases q : w.fx < w.ps.length
  · rw [if_pos q]
    refine ⟨h.put w.a (oW { w with cl := true }), w.ps, ?_, Upd.put x, rfl⟩
    rw [run_fn (Lib1.f39 (T := T)) rfl rfl]
    simp [P.F_Writer_close, P.b_Writer_close, startW, x0.a, b1, b2, q, f.lo, oW]
  · rw [if_neg q]
    have n1 : w.a ≠ h.n := by have := x0.la; omega
    have n2 : w.pl ≠ h.n := by have := x0.lpl; omega
    have n3 : w.a ≠ w.pl := by
      have := x.1
      simp [WS.cells] at this
      exact this.1.1
    have u1 : Upd h (h.push (.lst [])) w.cells ((h.n, .lst []) :: w.cells) := Upd.add x
    have u2 : Upd (h.push (.lst [])) ((h.push (.lst [])).put w.pl (.lst (prs w.ps ++ [.ref h.n]))) _ _ := Upd.mid (o' := .lst (prs w.ps ++ [.ref h.n])) [(h.n, .lst []), (w.a, oW w)] u1.has
    have u3 : Upd ((h.push (.lst [])).put w.pl (.lst (prs w.ps ++ [.ref h.n]))) (((h.push (.lst [])).put w.pl (.lst (prs w.ps ++ [.ref h.n]))).put w.a (oW { w with cl := true })) _ _ := Upd.mid (o' := oW { w with cl := true }) [(h.n, .lst [])] u2.has
    refine ⟨_, w.ps ++ [(h.n, [])], ?_, ((u1.trans u2).trans u3).perm (List.Perm.refl _) ?_, by simp [WS.pp]⟩
    · have sl : setL (h.push (.lst [])) w.pl (prs w.ps ++ [.ref h.n]) .non = .ok .non _ := u_setL (by simp [f.lo]) (by simp [prs_len]; omega)
      have nl : newL [] h = .ok (.ref h.n) (h.push (.lst [])) := newL_eq (by decide)
      have gp : (h.push (.lst [])).g w.pl = some (.lst (prs w.ps)) := by simp [Hm.push_g, n2, x0.pl]
      have ga : ((h.push (.lst [])).put w.pl (.lst (prs w.ps ++ [.ref h.n]))).g w.a = _ := (u2.has.2 (w.a, oW w) (by simp)).2
      have lo2 : ((h.push (.lst [])).put w.pl (.lst (prs w.ps ++ [.ref h.n]))).lo = 0 := f.lo
      revert ga u2 u3 lo2
      revert sl
      generalize (h.push (.lst [])).put w.pl (.lst (prs w.ps ++ [.ref h.n])) = h2
      intro sl u2 u3 ga lo2
      simp only [oW] at ga
      rw [run_fn (Lib1.f39 (T := T)) rfl rfl]
      simp [P.F_Writer_close, P.b_Writer_close, startW, u_fldW, x0.a, x0.pl, b1, b2, q, oW, nl, u_kindR, u_app, gp, sl, ga, lo2]
    · show ((h.n, O.lst []) :: (w.a, oW { w with cl := true }) :: (w.pl, O.lst (prs w.ps ++ [.ref h.n])) :: pcs w.ps).Perm ((w.a, oW _) :: (w.pl, .lst (prs (w.ps ++ [(h.n, [])]))) :: pcs (w.ps ++ [(h.n, [])]))
      rw [prs_app, pcs_app]
      exact (List.perm_append_comm (l₁ := [(h.n, O.lst [])]) (l₂ := (w.a, oW { w with cl := true }) :: (w.pl, O.lst (prs w.ps ++ [.ref h.n])) :: pcs w.ps))
end
end Mn
end
section
set_option Elab.async false
set_option linter.all false
set_option maxRecDepth 100000
set_option maxHeartbeats 4000000
namespace Mn
open PySem L2
def WS.body (w : WS) (n : Nat) : List Nat := (if w.cl = true ∧ n + 1 = w.ps.length then 1 else 0) :: (w.pp.getD n [])
section
variable {T : Tx} [Lib1 T] {d : Nat} {h : Hm} {w : WS}
theorem sub_at {a : Nat} {xs : List W} {y : W} {n : Nat} (e : h.g a = some (.lst xs)) (e2 : xs[n]? = some y) : Mn.sub (.ref a) (.int n) h = some y := by
  rw [u_subR, e]
  have : n < xs.length := (List.getElem?_eq_some_iff.mp e2).1
  have e3 : ixn xs.length n = some n := by
    unfold ixn
    rw [if_pos (by omega), if_pos (by omega)]
    rfl
  simp [e3, e2]
theorem c_body_of (x : WFacts h w) {n : Nat} (hn : n < w.ps.length) (hl : ∀ p, p ∈ w.pp → p.length ≤ 12) : run T (d + 1) 40 [.ref w.a, .int n] h = .ok (.tup (nts (w.body n))) h := by
  obtain ⟨q, eq⟩ : ∃ q, w.ps[n]? = some q := ⟨_, List.getElem?_eq_getElem hn⟩
  have sb : ∀ h2 : Hm, h2.g w.pl = some (.lst (prs w.ps)) → Mn.sub (.ref w.pl) (.int n) h2 = some (.ref q.1) := fun h2 e => sub_at e (by simp [prs, eq])
  have gq := x.p q (List.mem_of_getElem? eq)
  have n1 : w.pl ≠ h.n := by have := x.lpl; omega
  have n2 : q.1 ≠ h.n := by have := gq.2; omega
  have n3 : w.a ≠ h.n := by have := x.la; omega
  have eb : w.pp.getD n [] = q.2 := by simp [WS.pp, eq]
  have ql : q.2.length ≤ 12 := hl q.2 (List.mem_map.mpr ⟨q, List.mem_of_getElem? eq, rfl⟩)
  have nl : ∀ (y : W) (h : Hm), newL [y] h = .ok (.ref h.n) (h.push (.lst [y])) := fun y h => newL_eq (by simp)
  have nl2 : ∀ (y : W) (h : Hm), newL (y :: nts q.2) h = .ok (.ref h.n) (h.push (.lst (y :: nts q.2))) := fun y h => newL_eq (by simp [line]; omega)
  have tl : (nts q.2).length + 1 ≤ line := by simp [line]; omega
  refine run_pure_old (Lib1.f40 (T := T)) rfl rfl ?_ (by exact olds_nts _)
  unfold WS.body
  rw [eb]
  by_cases c : w.cl = true
  · by_cases m : n + 1 = w.ps.length
    · have m' : ((n : Int) = w.ps.length - 1) = True := eq_true (by omega)
      rw [if_pos ⟨c, m⟩]
      simp [P.F_Writer_body_of, P.b_Writer_body_of, startW, u_fldW, x.a, c, x.pl, u_len, u_lenR, prs_len, m', nl, Hm.push_g, n1, n2, n3, sb, u_catR, gq.1, nl2, u_tupR, u_rdL, tl]
    · have m' : ((n : Int) = w.ps.length - 1) = False := eq_false (by omega)
      rw [if_neg (by simp [m])]
      simp [P.F_Writer_body_of, P.b_Writer_body_of, startW, u_fldW, x.a, c, x.pl, u_len, u_lenR, prs_len, m', nl, Hm.push_g, n1, n2, n3, sb, u_catR, gq.1, nl2, u_tupR, u_rdL, tl]
  · have c' : w.cl = false := by simpa using c
    rw [if_neg (by simp [c'])]
    simp [P.F_Writer_body_of, P.b_Writer_body_of, startW, u_fldW, x.a, c', x.pl, u_len, u_lenR, prs_len, nl, Hm.push_g, n1, n2, n3, sb, u_catR, gq.1, nl2, u_tupR, u_rdL, tl]
theorem rngL_eq : ∀ (n a : Nat), rngL n (a : Int) = (List.range' a n).map fun i : Nat => W.int i
  | 0, _ => rfl
  | n + 1, a => by
    rw [rngL, List.range'_succ, List.map_cons, ← rngL_eq n (a + 1)]
    rfl
theorem comp_map {C : Cf} {e c : Ex} {t : Tg} {it : It} {σ : List (Option W)} {gd : List (Nat × List W)} {ι : Type} {ys : List ι} {k g : ι → W} (hl : toLock (evL C it σ h) = none) (hi : evI C it σ h = .ok ⟨ys.map k, gd⟩ h) (hs : stays h gd = true)
    (hf : ∀ y, y ∈ ys → ∃ σ', store t (k y) σ h = some σ' ∧ evT C c σ' h = .ok true h ∧ evE C e σ' h = .ok (g y) h) (hn : ys.length ≤ line) : evE C (.comp e t it c) σ h = .ok (.ref h.n) (h.push (.lst (ys.map g))) := by
  rw [q_evE_comp, hl]
  simp only [withLock_none, hi, R.bind_ok]
  rw [compL_map (g := g) hs (fun y m => by
    obtain ⟨σ', e1, e2, e3⟩ := hf y m
    simp only [e1, e2, e3, R.bind_ok])]
  simp only [R.bind_ok]
  exact newL_eq (by simpa using hn)
theorem evI_rngN {C : Cf} {a b : Ex} {σ : List (Option W)} {m n : Nat} (ea : evE C a σ h = .ok (.int m) h) (eb : evE C b σ h = .ok (.int n) h) (hm : m < 2 ^ 60) (hn : n < 2 ^ 60) : evI C (.rng a b) σ h = .ok ⟨(List.range' m (n - m)).map fun i : Nat => W.int i, []⟩ h := by
  rw [q_evI_rng, ea, R.bind_ok, eb, R.bind_ok]
  dsimp only
  have e : ((n : Int) - m).toNat = n - m := by omega
  rw [if_pos (by omega), e, rngL_eq]
def WS.to (w : WS) : Nat := min (w.kn + 4) w.ps.length
def WS.dues (w : WS) : List Nat := List.range' w.kn (w.to - w.kn)
def dueW (w : WS) (n : Nat) : W := .tup [.int n, .tup (nts (w.body n))]
theorem body_fx {w : WS} {fx : Nat} : ({ w with fx := fx } : WS).body = w.body := rfl
theorem c_due (x : Has h w.cells) (f : Free h) (hk : w.kn ≤ w.ps.length) (hn : w.ps.length < line) (hl : ∀ p, p ∈ w.pp → p.length ≤ 12) :
    ∃ h' a, run T (d + 2) 41 [.ref w.a] h = .ok (.ref a) h' ∧ Upd h h' w.cells ((a, .lst (w.dues.map (dueW w))) :: ({ w with fx := max w.fx w.to } : WS).cells) := by
  have x0 := x.writer
  have u1 : Upd h (h.put w.a (oW { w with fx := max w.fx w.to })) w.cells ({ w with fx := max w.fx w.to } : WS).cells := Upd.put x
  have x1 := u1.has.writer
  refine ⟨(h.put w.a (oW { w with fx := max w.fx w.to })).push (.lst (w.dues.map (dueW w))), h.n, ?_, u1.trans (Upd.add u1.has)⟩
  have b1 : ∀ n, n ∈ w.dues → run T (d + 1) 40 [.ref w.a, .int n] (h.put w.a (oW { w with fx := max w.fx w.to })) = .ok (.tup (nts (w.body n))) (h.put w.a (oW { w with fx := max w.fx w.to })) := fun n m => by
    have := List.mem_range'_1.mp m
    unfold WS.to at this
    exact c_body_of (w := { w with fx := max w.fx w.to }) x1 (by show n < w.ps.length; omega) hl
  have e1 : (if (w.ps.length : Int) < (w.kn : Int) + 4 then (w.ps.length : Int) else (w.kn : Int) + 4) = (w.to : Int) := by
    unfold WS.to
    split <;> omega
  have e2 : (if w.fx < w.to then (w.to : Int) else (w.fx : Int)) = ((max w.fx w.to : Nat) : Int) := by
    split <;> omega
  have t1 : w.to ≤ w.ps.length := by unfold WS.to; omega
  have f1 := u1.free f
  simp only [oW] at b1 u1 x1 f1 ⊢
  have x1a := x1.a
  revert b1 u1 x1 f1 x1a
  obtain ⟨h1, eh⟩ : ∃ h1, h1 = h.put w.a (.ins 2 [(7, .ref w.pl), (8, .int (max w.fx w.to : Nat)), (9, .int w.kn), (10, .bl w.cl)]) := ⟨_, rfl⟩
  rw [← eh]
  intro u1 x1 b1 f1 x1a
  simp only at x1a
  have ec : evE (T.cf (run T (d + 1))) (.comp (.tup (.of [.loc 2, .meth (.loc 0) 112 (.of [.loc 2])])) (.one 2) (.rng (.attr (.loc 0) 9) (.loc 1)) (.con (.bl true))) [some (.ref w.a), some (.int w.to), none] h1 = .ok (.ref h1.n) (h1.push (.lst (w.dues.map (dueW w)))) := by
    refine comp_map (k := fun i : Nat => W.int i) (gd := []) rfl (evI_rngN (m := w.kn) (n := w.to) ?_ ?_ ?_ ?_) rfl (fun n m => ⟨_, rfl, ?_, ?_⟩) ?_
    · simp [u_fldW, x1a]
    · simp
    · unfold line at hn; omega
    · unfold line at hn; omega
    · simp
    · simp [x1a, b1 n m, dueW]
    · rw [WS.dues, List.length_range']; omega
  have en : h1.n = h.n := by rw [eh]; rfl
  rw [run_fn (Lib1.f41 (T := T)) rfl rfl]
  simp [-q_evE_comp, P.F_Writer_due, P.b_Writer_due, startW, u_fldW, x0.a, x0.pl, u_len, u_lenR, prs_len, f.lo, e1, e2, ← eh]
  simp only [Exs.of_cons, Exs.of_nil] at ec
  rw [ec]
  simp [en]
end
structure RdS where
  row : Nat
  a : Nat
  sg : Nat
  ed : Nat
  ss : List Nat
  cnt : Nat
  cl : Bool
def oR (r : RdS) : O := .ins 12 [(129, .ref r.sg), (130, .int r.cnt), (131, .ref r.ed), (10, .bl r.cl)]
def oRr (r : RdS) : O := .ins 13 [(68, .ref r.a), (132, .int r.cnt)]
def RdS.rc (r : RdS) : List (Nat × O) := [(r.a, oR r), (r.sg, .lst (nts r.ss)), (r.ed, .dK [])]
def RdS.cells (r : RdS) : List (Nat × O) := (r.row, oRr r) :: r.rc
structure RFacts (h : Hm) (r : RdS) : Prop where
  a : h.g r.a = some (.ins 12 [(129, .ref r.sg), (130, .int r.cnt), (131, .ref r.ed), (10, .bl r.cl)])
  sg : h.g r.sg = some (.lst (nts r.ss))
  ed : h.g r.ed = some (.dK [])
  la : r.a < h.n
  lsg : r.sg < h.n
  led : r.ed < h.n
  n1 : r.a ≠ r.sg
  n2 : r.a ≠ r.ed
  n3 : r.sg ≠ r.ed
theorem Has.reader {h : Hm} {r : RdS} (x : Has h r.rc) : RFacts h r := by
  have nd := x.1
  simp [RdS.rc] at nd
  exact ⟨(x.2 (r.a, oR r) (by simp [RdS.rc])).2, (x.2 (r.sg, .lst (nts r.ss)) (by simp [RdS.rc])).2, (x.2 (r.ed, .dK []) (by simp [RdS.rc])).2, (x.2 (r.a, oR r) (by simp [RdS.rc])).1, (x.2 (r.sg, .lst (nts r.ss)) (by simp [RdS.rc])).1, (x.2 (r.ed, .dK []) (by simp [RdS.rc])).1, nd.1.1, nd.1.2, nd.2⟩
section
variable {T : Tx} [Lib1 T] {d : Nat} {h : Hm} {r : RdS}
theorem cut_tail (x : W) (xs : List W) : cut (x :: xs) (some 1) none = xs := by
  have e : cutIx (xs.length + 1) 0 (some 1) = 1 := by
    unfold cutIx
    simp
    omega
  show ((x :: xs).drop (cutIx (xs.length + 1) 0 (some 1))).take (cutIx (xs.length + 1) (xs.length + 1) none - cutIx (xs.length + 1) 0 (some 1)) = xs
  rw [e]
  simp [cutIx]
theorem c_take (x : Has h r.rc) (f : Free h) {b : Nat} {l : List Nat} (hl : r.ss.length + l.length ≤ line) (hl2 : l.length < line) :
    ∃ h', run T (d + 1) 157 [.ref r.a, .int r.cnt, .tup (nts (b :: l))] h = .ok (.int (r.cnt + 1 : Nat)) h' ∧ Upd h h' r.rc ({ r with ss := r.ss ++ l, cnt := r.cnt + 1, cl := decide (b = 1) } : RdS).rc := by
  have x0 := x.reader
  have k1 : Upd h (h.put r.ed (.dK [(.inl (r.cnt : Int), .tup (nts (b :: l)))])) r.rc [(r.a, oR r), (r.sg, .lst (nts r.ss)), (r.ed, .dK [(.inl (r.cnt : Int), .tup (nts (b :: l)))])] := Upd.mid [(r.a, oR r), (r.sg, .lst (nts r.ss))] x
  obtain ⟨h1, e1⟩ : ∃ h1, h1 = h.put r.ed (.dK [(.inl (r.cnt : Int), .tup (nts (b :: l)))]) := ⟨_, rfl⟩
  rw [← e1] at k1
  have k2 : Upd h1 (h1.put r.ed (.dK [])) _ [(r.a, oR r), (r.sg, .lst (nts r.ss)), (r.ed, .dK [])] := Upd.mid [(r.a, oR r), (r.sg, .lst (nts r.ss))] k1.has
  obtain ⟨h2, e2⟩ : ∃ h2, h2 = h1.put r.ed (.dK []) := ⟨_, rfl⟩
  rw [← e2] at k2
  have k3 : Upd h2 (h2.put r.sg (.lst (nts r.ss ++ nts l))) _ [(r.a, oR r), (r.sg, .lst (nts r.ss ++ nts l)), (r.ed, .dK [])] := Upd.mid [(r.a, oR r)] k2.has
  obtain ⟨h3, e3⟩ : ∃ h3, h3 = h2.put r.sg (.lst (nts r.ss ++ nts l)) := ⟨_, rfl⟩
  rw [← e3] at k3
  have k4 : Upd h3 (h3.put r.a (.ins 12 [(129, .ref r.sg), (130, .int r.cnt), (131, .ref r.ed), (10, .bl (decide (b = 1)))])) _ [(r.a, .ins 12 [(129, .ref r.sg), (130, .int r.cnt), (131, .ref r.ed), (10, .bl (decide (b = 1)))]), (r.sg, .lst (nts r.ss ++ nts l)), (r.ed, .dK [])] := Upd.put k3.has
  obtain ⟨h4, e4⟩ : ∃ h4, h4 = h3.put r.a (.ins 12 [(129, .ref r.sg), (130, .int r.cnt), (131, .ref r.ed), (10, .bl (decide (b = 1)))]) := ⟨_, rfl⟩
  rw [← e4] at k4
  have k5 : Upd h4 (h4.put r.a (oR { r with ss := r.ss ++ l, cnt := r.cnt + 1, cl := decide (b = 1) })) _ [(r.a, oR { r with ss := r.ss ++ l, cnt := r.cnt + 1, cl := decide (b = 1) }), (r.sg, .lst (nts r.ss ++ nts l)), (r.ed, .dK [])] := Upd.put k4.has
  have lst : [(r.a, oR { r with ss := r.ss ++ l, cnt := r.cnt + 1, cl := decide (b = 1) }), (r.sg, .lst (nts r.ss ++ nts l)), (r.ed, .dK [])] = ({ r with ss := r.ss ++ l, cnt := r.cnt + 1, cl := decide (b = 1) } : RdS).rc := by simp [RdS.rc]
  refine ⟨h4.put r.a (oR { r with ss := r.ss ++ l, cnt := r.cnt + 1, cl := decide (b = 1) }), ?_, lst ▸ ((((k1.trans k2).trans k3).trans k4).trans k5)⟩
  have a1 : h1.g r.a = _ := (k1.has.2 (r.a, oR r) (by simp)).2
  have d1 : h1.g r.ed = _ := (k1.has.2 (r.ed, .dK [(.inl (r.cnt : Int), .tup (nts (b :: l)))]) (by simp)).2
  have a2 : h2.g r.a = _ := (k2.has.2 (r.a, oR r) (by simp)).2
  have s2 : h2.g r.sg = _ := (k2.has.2 (r.sg, .lst (nts r.ss)) (by simp)).2
  have a3 : h3.g r.a = _ := (k3.has.2 (r.a, oR r) (by simp)).2
  have a4 : h4.g r.a = _ := (k4.has.2 (r.a, .ins 12 [(129, .ref r.sg), (130, .int r.cnt), (131, .ref r.ed), (10, .bl (decide (b = 1)))]) (by simp)).2
  have a5 := (k5.has.2 (r.a, oR { r with ss := r.ss ++ l, cnt := r.cnt + 1, cl := decide (b = 1) }) (by simp)).2
  have d5 := (k5.has.2 (r.ed, .dK []) (by simp)).2
  have f1 := k1.free f
  have f2 := k2.free f1
  have f3 := k3.free f2
  have f4 := k4.free f3
  simp only [oR, RdS.rc] at a1 a2 a3 a5 d5 ⊢
  obtain ⟨h5, e5⟩ : ∃ h5, h5 = h4.put r.a (.ins 12 [(129, .ref r.sg), (130, .int (r.cnt + 1 : Nat)), (131, .ref r.ed), (10, .bl (decide (b = 1)))]) := ⟨_, rfl⟩
  rw [← e5] at a5 d5 ⊢
  have sd1 : setD h r.ed (.dK [(.inl (r.cnt : Int), .tup (nts (b :: l)))]) .non = .ok .non h1 := by rw [e1]; exact u_setD (by simp [f.lo]) (by simp [f.lk])
  have sd2 : setD h1 r.ed (.dK []) (.tup (nts (b :: l))) = .ok (.tup (nts (b :: l))) h2 := by rw [e2]; exact u_setD (by simp [f1.lo]) (by simp [f1.lk])
  have sl3 : setL h2 r.sg (nts r.ss ++ nts l) .non = .ok .non h3 := by rw [e3]; exact u_setL (by simp [f2.lo]) (by simpa using hl)
  rw [run_fn (Lib1.f157 (T := T)) rfl rfl]
  simp only [nts_cons] at sd1 sd2 d1
  simp [P.F_Reader_take, P.b_Reader_take, startW, u_fldW, x0.a, x0.ed, u_sett, keyOf, putD, sd1, line]
  have s2' : h2.g r.sg = some (.lst (nts r.ss)) := s2
  have a4' : h4.g r.a = some (.ins 12 [(129, .ref r.sg), (130, .int r.cnt), (131, .ref r.ed), (10, .bl (decide (b = 1)))]) := a4
  rw [evS_whl, whileL_true (m := 999999) (σ2 := [some (.ref r.a), some (.int r.cnt), some (.tup (nts (b :: l))), some (.tup (nts (b :: l)))]) (h1 := h1) (h2 := h5) rfl, whileL_false (m := 999998) (h1 := h5) rfl]
  · simp [u_fldW, a5]
  · simp [u_fldW, a5, d5, u_isin, u_inR, u_dgetR, keyOf]
  · simp [u_fldW, a1, d1, u_isin, u_inR, u_dgetR, keyOf]
  · have b1 : decide ((b : Int) = 1) = decide (b = 1) := by congr 1; exact propext (by omega)
    simp [u_fldW, a1, d1, u_kindR, u_dpop, keyOf, dropD, sd2, a2, s2', cutB, u_cutT, cut_tail, u_extT, sl3, a3, f3.lo, u_subT, ixn, b1, ← e4, a4', f4.lo, e5]
end
end Mn
end
section
set_option Elab.async false
set_option linter.all false
set_option maxRecDepth 100000
set_option maxHeartbeats 4000000
namespace Mn
open PySem L2
section
variable {T : Tx} [Lib1 T] {d : Nat} {h : Hm} {r : RdS}
theorem c_reader (f : Free h) : run T (d + 1) 156 [.ref h.n] (h.push (.ins 12 [])) = .ok .non (((h.push (.ins 12 [(129, .ref (h.n + 1)), (130, .int 0), (131, .ref (h.n + 2)), (10, .bl false)])).push (.lst [])).push (.dK [])) := by
  have nl : ∀ (h : Hm), newL [] h = .ok (.ref h.n) (h.push (.lst [])) := fun h => newL_eq (by decide)
  rw [run_fn (Lib1.f156 (T := T)) rfl rfl]
  simp [P.F_Reader___init__, P.b_Reader___init__, startW, u_fldW, f.lo, nl, Hm.push_g, put_push1, put_push2, put_push3]
theorem c_read_row (f : Free h) : run T (d + 2) 163 [.ref h.n] (h.push (.ins 13 [])) = .ok .non ((((h.push (.ins 13 [(68, .ref (h.n + 1)), (132, .int 0)])).push (.ins 12 [(129, .ref (h.n + 2)), (130, .int 0), (131, .ref (h.n + 3)), (10, .bl false)])).push (.lst [])).push (.dK [])) := by
  have b1 := c_reader (T := T) (d := d) (h := h.push (.ins 13 [])) ⟨f.lo, f.lk⟩
  simp only [Hm.push_n] at b1
  rw [run_fn (Lib1.f163 (T := T)) rfl rfl]
  simp [P.F_ReadRow___init__, P.b_ReadRow___init__, startW, u_fldW, f.lo, b1, Hm.push_g, put_push1, put_push2, put_push3, put_push4]
theorem c_writer (f : Free h) : run T (d + 1) 35 [.ref h.n] (h.push (.ins 2 [])) = .ok .non ((h.push (.ins 2 [(7, .ref (h.n + 1)), (8, .int 0), (9, .int 0), (10, .bl false)])).push (.lst [])) := by
  have nl : ∀ (h : Hm), newL [] h = .ok (.ref h.n) (h.push (.lst [])) := fun h => newL_eq (by decide)
  rw [run_fn (Lib1.f35 (T := T)) rfl rfl]
  simp [P.F_Writer___init__, P.b_Writer___init__, startW, u_fldW, f.lo, nl, Hm.push_g, put_push1, put_push2, put_push3]
theorem c_stream_row (f : Free h) {n : Nat} : run T (d + 2) 50 [.ref h.n, .int n] (h.push (.ins 4 [])) = .ok .non (((h.push (.ins 4 [(12, .int n), (13, .ref (h.n + 1)), (14, .int 0)])).push (.ins 2 [(7, .ref (h.n + 2)), (8, .int 0), (9, .int 0), (10, .bl false)])).push (.lst [])) := by
  have b1 := c_writer (T := T) (d := d) (h := h.push (.ins 4 [(12, .int n)])) ⟨f.lo, f.lk⟩
  simp only [Hm.push_n] at b1
  rw [run_fn (Lib1.f50 (T := T)) rfl rfl]
  simp [P.F_StreamRow___init__, P.b_StreamRow___init__, startW, u_fldW, f.lo, b1, Hm.push_g, put_push1, put_push2, put_push3, put_push4]
theorem c_text (x : RFacts h r) (hs : ∀ x ∈ r.ss, x < 96 ∧ x ≠ 5) (hl : r.ss.length ≤ line) : run T (d + 3) 158 [.ref r.a] h = .ok (.str (txt r.ss)) h := by
  have b1 : run T (d + 2) 155 [.ref r.sg] { h with lo := h.n } = .ok (.str (txt r.ss)) { h with lo := h.n } := c_signs_text x.sg hs hl
  refine run_pure_old (Lib1.f158 (T := T)) rfl rfl ?_ rfl
  simp [P.F_Reader_text, P.b_Reader_text, startW, u_fldW, x.a, b1]
theorem c_ended (x : RFacts h r) : run T (d + 1) 159 [.ref r.a] h = .ok (.bl r.cl) h := by
  refine run_pure_old (Lib1.f159 (T := T)) rfl rfl ?_ rfl
  simp [P.F_Reader_ended, P.b_Reader_ended, startW, u_fldW, x.a]
end
end Mn
end
section
set_option Elab.async false
set_option linter.all false
set_option maxRecDepth 100000
set_option maxHeartbeats 4000000
namespace Mn
open PySem L2
structure Stm where
  ra : Nat
  w : WS
  nx : Nat
  rd : Option RdS
structure DS where
  a : Nat
  sh : W
  sl : Nat
  rdd : Nat
  fl : Nat
  ak : Nat
  dn : Nat
  tr : Nat
  p : PS
  str : List Stm
  rds : List (Nat × Nat)
  fs : List (List Key × W)
  ts : List W
def oS (hs : Nat) (s : Stm) : O := .ins 4 [(12, .int hs), (13, .ref s.w.a), (14, .int s.nx)]
def Stm.cells (hs : Nat) (s : Stm) : List (Nat × O) := (s.ra, oS hs s) :: (s.w.cells ++ match s.rd with
  | some r => r.cells
  | none => [])
def oD (D : DS) : O := .ins 6 [(19, .ref D.p.a), (20, D.sh), (21, .ref D.sl), (22, .ref D.rdd), (23, .ref D.fl), (24, .ref D.ak), (25, .ref D.dn), (26, .ref D.tr)]
def rdsW (hs : Nat) (l : List (Nat × Nat)) : List (List Key × W) := l.map fun e => ([.inl (hs : Int), .inl (e.1 : Int)], .ref e.2)
def strW' (l : List Stm) : List W := l.map fun s => .ref s.ra
def DS.base (D : DS) : List (Nat × O) := [(D.a, oD D), (D.sl, .lst (strW' D.str)), (D.rdd, .dT (rdsW D.p.hs D.rds)), (D.fl, .dT D.fs), (D.ak, .lst []), (D.dn, .dT []), (D.tr, .lst D.ts)]
def scs (hs : Nat) (l : List Stm) : List (Nat × O) := l.flatMap (Stm.cells hs)
def DS.cells (D : DS) : List (Nat × O) := D.base ++ (D.p.cells ++ scs D.p.hs D.str)
theorem Upd.inn {A B cs cs' : List (Nat × O)} {h h' : Hm} (u : Upd h h' cs cs') (x : Has h (A ++ (cs ++ B))) : Upd h h' (A ++ (cs ++ B)) (A ++ (cs' ++ B)) := by
  have p : ∀ c : List (Nat × O), (c ++ (A ++ B)).Perm (A ++ (c ++ B)) := fun c => by
    rw [← List.append_assoc, ← List.append_assoc]
    exact List.Perm.append_right _ List.perm_append_comm
  exact (u.frame (fs := A ++ B) (x.perm (p cs).symm)).perm (p cs) (p cs')
structure DFacts (h : Hm) (D : DS) : Prop where
  a : h.g D.a = some (.ins 6 [(19, .ref D.p.a), (20, D.sh), (21, .ref D.sl), (22, .ref D.rdd), (23, .ref D.fl), (24, .ref D.ak), (25, .ref D.dn), (26, .ref D.tr)])
  sl : h.g D.sl = some (.lst (strW' D.str))
  rdd : h.g D.rdd = some (.dT (rdsW D.p.hs D.rds))
  fl : h.g D.fl = some (.dT D.fs)
  ak : h.g D.ak = some (.lst [])
  dn : h.g D.dn = some (.dT [])
  tr : h.g D.tr = some (.lst D.ts)
  la : D.a < h.n
  lsl : D.sl < h.n
  lrd : D.rdd < h.n
  lfl : D.fl < h.n
  lak : D.ak < h.n
  ldn : D.dn < h.n
  ltr : D.tr < h.n
  p : Has h D.p.cells
  s : ∀ s, s ∈ D.str → Has h (s.cells D.p.hs)
theorem Has.sub {h : Hm} {A B cs : List (Nat × O)} (x : Has h (A ++ (cs ++ B))) : Has h cs := (x.right).left
theorem scs_mem {hs : Nat} {l : List Stm} {s : Stm} (m : s ∈ l) : ∃ A B, scs hs l = A ++ (s.cells hs ++ B) := by
  obtain ⟨i, j, e⟩ := List.append_of_mem m
  exact ⟨scs hs i, scs hs j, by subst e; simp [scs]⟩
theorem Has.desk {h : Hm} {D : DS} (x : Has h D.cells) : DFacts h D := by
  have g := x.left.2
  have m : ∀ c, c ∈ D.base → c.1 < h.n ∧ h.g c.1 = some c.2 := g
  refine ⟨(m (D.a, oD D) (by simp [DS.base])).2, (m (D.sl, .lst (strW' D.str)) (by simp [DS.base])).2, (m (D.rdd, .dT (rdsW D.p.hs D.rds)) (by simp [DS.base])).2, (m (D.fl, .dT D.fs) (by simp [DS.base])).2, (m (D.ak, .lst []) (by simp [DS.base])).2, (m (D.dn, .dT []) (by simp [DS.base])).2, (m (D.tr, .lst D.ts) (by simp [DS.base])).2,
    (m (D.a, oD D) (by simp [DS.base])).1, (m (D.sl, .lst (strW' D.str)) (by simp [DS.base])).1, (m (D.rdd, .dT (rdsW D.p.hs D.rds)) (by simp [DS.base])).1, (m (D.fl, .dT D.fs) (by simp [DS.base])).1, (m (D.ak, .lst []) (by simp [DS.base])).1, (m (D.dn, .dT []) (by simp [DS.base])).1, (m (D.tr, .lst D.ts) (by simp [DS.base])).1,
    x.right.left, fun s ms => ?_⟩
  obtain ⟨A, B, e⟩ := scs_mem (hs := D.p.hs) ms
  have := x.right.right
  rw [e] at this
  exact this.sub
theorem Upd.post {h h' : Hm} {D : DS} {p' : PS} (u : Upd h h' D.p.cells p'.cells) (x : Has h D.cells) (e1 : p'.a = D.p.a) (e2 : p'.hs = D.p.hs) : Upd h h' D.cells ({ D with p := p' } : DS).cells := by
  have v := u.inn (A := D.base) (B := scs D.p.hs D.str) x
  have e : ({ D with p := p' } : DS).cells = D.base ++ (p'.cells ++ scs D.p.hs D.str) := by
    unfold DS.cells DS.base oD
    simp only [e1, e2]
  rw [e]
  exact v
theorem set_split {α : Type} {l : List α} {k : Nat} {s s' : α} (m : l[k]? = some s) : ∃ i j, l = i ++ s :: j ∧ l.set k s' = i ++ s' :: j ∧ i.length = k := by
  have hk : k < l.length := (List.getElem?_eq_some_iff.mp m).1
  refine ⟨l.take k, l.drop (k + 1), ?_, ?_, by simp; omega⟩
  · have e := (List.getElem?_eq_some_iff.mp m).2
    rw [← e]
    simp
  · rw [List.set_eq_take_append_cons_drop, if_pos hk]
theorem Upd.stm {h h' : Hm} {D : DS} {k : Nat} {s s' : Stm} (m : D.str[k]? = some s) (u : Upd h h' (s.cells D.p.hs) (s'.cells D.p.hs)) (x : Has h D.cells) (e : s'.ra = s.ra) : Upd h h' D.cells ({ D with str := D.str.set k s' } : DS).cells := by
  obtain ⟨i, j, e1, e2, _⟩ := set_split (s' := s') m
  have c1 : D.cells = (D.base ++ (D.p.cells ++ scs D.p.hs i)) ++ (s.cells D.p.hs ++ scs D.p.hs j) := by
    unfold DS.cells
    rw [e1]
    simp [scs]
  have c2 : ({ D with str := D.str.set k s' } : DS).cells = (D.base ++ (D.p.cells ++ scs D.p.hs i)) ++ (s'.cells D.p.hs ++ scs D.p.hs j) := by
    have b : ({ D with str := D.str.set k s' } : DS).base = D.base := by
      unfold DS.base
      simp only
      rw [e2, e1]
      simp [strW', e, oD]
    unfold DS.cells
    rw [b]
    simp only [e2]
    simp [scs]
  rw [c2]
  rw [c1] at x ⊢
  exact u.inn x
theorem Upd.wr {h h' : Hm} {hs : Nat} {s : Stm} {w' : WS} (u : Upd h h' s.w.cells w'.cells) (x : Has h (s.cells hs)) (e : w'.a = s.w.a) : Upd h h' (s.cells hs) (({ s with w := w' } : Stm).cells hs) := by
  have v := u.inn (A := [(s.ra, oS hs s)]) x
  have c : ({ s with w := w' } : Stm).cells hs = [(s.ra, oS hs s)] ++ (w'.cells ++ match s.rd with
    | some r => r.cells
    | none => []) := by
    unfold Stm.cells oS
    simp only [e]
    rfl
  rw [c]
  exact v
section
variable {T : Tx} [Lib1 T] {d : Nat} {h : Hm} {D : DS}
theorem Stm.row {s : Stm} {hs : Nat} (x : Has h (s.cells hs)) : h.g s.ra = some (.ins 4 [(12, .int hs), (13, .ref s.w.a), (14, .int s.nx)]) ∧ s.ra < h.n := ⟨(x.2 _ List.mem_cons_self).2, (x.2 _ List.mem_cons_self).1⟩
theorem Stm.wr {s : Stm} {hs : Nat} (x : Has h (s.cells hs)) : Has h s.w.cells := x.tail.left
theorem c_row_of (x : DFacts h D) {k : Nat} {s : Stm} (m : D.str[k]? = some s) : run T (d + 1) 54 [.ref D.a, .int k] h = .ok (.ref s.ra) h := by
  have lk : k < D.str.length := (List.getElem?_eq_some_iff.mp m).1
  have ls := (Stm.row (x.s s (List.mem_of_getElem? m))).2
  have sb : ∀ h2 : Hm, h2.g D.sl = some (.lst (strW' D.str)) → Mn.sub (.ref D.sl) (.int k) h2 = some (.ref s.ra) := fun h2 e => sub_at e (by simp [strW', m])
  have sl : (strW' D.str).length = D.str.length := List.length_map _
  have n1 : ¬ (D.str.length ≤ k) := by omega
  have n2 : ¬ ((k : Int) < 0) := by omega
  refine run_pure_old (Lib1.f54 (T := T)) rfl rfl ?_ (by simpa [old] using ls)
  simp [P.F_Desk_row_of, P.b_Desk_row_of, startW, u_fldW, x.a, x.sl, u_len, u_lenR, sl, n1, n2, sb]
theorem c_dwrite (x : Has h D.cells) (f : Free h) {k : Nat} {s : Stm} (m : D.str[k]? = some s) (hw : s.w.cl = false) (hl : s.w.ps.length + 100000 < line) (hp : ∀ p, p ∈ s.w.pp → p.length ≤ 12) {t : Str} (hc : ∀ c ∈ t.cps.toList, c ∈ codes) (ht : t.cps.size ≤ 100000) :
    ∃ h' ps', run T (d + 4) 55 [.ref D.a, .int k, .str t] h = .ok .non h' ∧ Upd h h' D.cells ({ D with str := D.str.set k { s with w := { s.w with ps := ps' } } } : DS).cells ∧ ps'.map (·.2) = (t.cps.toList.map sg).foldl (addS s.w.fx) s.w.pp := by
  have x0 := x.desk
  have xs := x0.s s (List.mem_of_getElem? m)
  have b1 : run T (d + 3) 54 [.ref D.a, .int k] h = .ok (.ref s.ra) h := c_row_of x0 m
  obtain ⟨h', ps', e1, u, e2⟩ := c_write (T := T) (d := d) (Stm.wr xs) f hw hl hp hc ht
  refine ⟨h', ps', ?_, Upd.stm m (u.wr xs rfl) x rfl, e2⟩
  rw [run_fn (Lib1.f55 (T := T)) rfl rfl]
  simp [P.F_Desk_write, P.b_Desk_write, startW, u_fldW, x0.a, b1, (Stm.row xs).1, (Stm.wr xs).writer.a, e1]
theorem c_dclose (x : Has h D.cells) (f : Free h) {k : Nat} {s : Stm} (m : D.str[k]? = some s) (hw : s.w.cl = false) (hl : s.w.ps.length < line) :
    ∃ h' ps', run T (d + 4) 56 [.ref D.a, .int k] h = .ok .non h' ∧ Upd h h' D.cells ({ D with str := D.str.set k { s with w := { s.w with ps := ps', cl := true } } } : DS).cells ∧ ps'.map (·.2) = if s.w.fx < s.w.ps.length then s.w.pp else s.w.pp ++ [[]] := by
  have x0 := x.desk
  have xs := x0.s s (List.mem_of_getElem? m)
  have b1 : run T (d + 3) 54 [.ref D.a, .int k] h = .ok (.ref s.ra) h := c_row_of x0 m
  obtain ⟨h', ps', e1, u, e2⟩ := c_close (T := T) (d := d) (Stm.wr xs) f hw hl
  refine ⟨h', ps', ?_, Upd.stm m (u.wr xs rfl) x rfl, e2⟩
  rw [run_fn (Lib1.f56 (T := T)) rfl rfl]
  simp [P.F_Desk_close, P.b_Desk_close, startW, u_fldW, x0.a, b1, (Stm.row xs).1, (Stm.wr xs).writer.a, e1]
end
end Mn
end
section
set_option Elab.async false
set_option linter.all false
set_option maxRecDepth 100000
set_option maxHeartbeats 4000000
namespace Mn
open PySem L2
section
variable {T : Tx} [Lib1 T] {d : Nat} {h : Hm} {D : DS}
theorem c_is_house {n : Nat} (hn : n < 32) : run T (d + 1) 8 [.int n] h = .ok (.bl true) h := by
  have e1 : (n : Int) ≤ 31 := by omega
  have e2 : (0 : Int) ≤ n := by omega
  refine run_pure_old (Lib1.f8 (T := T)) rfl rfl ?_ rfl
  simp [P.F_is_house, P.b_is_house, startW, e1, e2]
def newStm (n : Nat) : Stm := ⟨n, ⟨n + 1, n + 2, [], 0, 0, false⟩, 0, none⟩
theorem c_begin (x : Has h D.cells) (f : Free h) (hs : D.p.hs < 32) (hl : D.str.length < line) :
    ∃ h', run T (d + 3) 53 [.ref D.a, .int D.p.hs] h = .ok (.int D.str.length) h' ∧ Upd h h' D.cells ({ D with str := D.str ++ [newStm h.n] } : DS).cells := by
  have x0 := x.desk
  have b1 : run T (d + 2) 8 [.int D.p.hs] h = .ok (.bl true) h := c_is_house hs
  have b2 := c_stream_row (T := T) (d := d) (n := D.p.hs) f
  have u1 : Upd h (h.push (oS D.p.hs (newStm h.n))) D.cells ((h.n, oS D.p.hs (newStm h.n)) :: D.cells) := Upd.add x
  have u2 : Upd (h.push (oS D.p.hs (newStm h.n))) ((h.push (oS D.p.hs (newStm h.n))).push (oW (newStm h.n).w)) _ ((h.n + 1, oW (newStm h.n).w) :: (h.n, oS D.p.hs (newStm h.n)) :: D.cells) := Upd.add u1.has
  have u3 : Upd ((h.push (oS D.p.hs (newStm h.n))).push (oW (newStm h.n).w)) (((h.push (oS D.p.hs (newStm h.n))).push (oW (newStm h.n).w)).push (.lst [])) _ ((h.n + 2, .lst []) :: (h.n + 1, oW (newStm h.n).w) :: (h.n, oS D.p.hs (newStm h.n)) :: D.cells) := Upd.add u2.has
  have e2 : run T (d + 2) 50 [.ref h.n, .int D.p.hs] (h.push (.ins 4 [])) = .ok .non (((h.push (oS D.p.hs (newStm h.n))).push (oW (newStm h.n).w)).push (.lst [])) := b2
  have u123 := (u1.trans u2).trans u3
  revert e2 u123
  generalize ((h.push (oS D.p.hs (newStm h.n))).push (oW (newStm h.n).w)).push (.lst []) = h3
  intro e2 u123
  have f3 := u123.free f
  have xd := (u123.has.tail.tail.tail).desk
  have u4 : Upd h3 (h3.put D.sl (.lst (strW' D.str ++ [.ref h.n]))) _ _ := Upd.mid (o' := .lst (strW' D.str ++ [.ref h.n])) [(h.n + 2, .lst []), (h.n + 1, oW (newStm h.n).w), (h.n, oS D.p.hs (newStm h.n)), (D.a, oD D)] u123.has
  have sl : setL h3 D.sl (strW' D.str ++ [.ref h.n]) .non = .ok .non _ := u_setL (by simp [f3.lo]) (by simp [strW']; omega)
  have a4 : (h3.put D.sl (.lst (strW' D.str ++ [.ref h.n]))).g D.a = _ := (u4.has.2 (D.a, oD D) (by simp)).2
  have l4 : (h3.put D.sl (.lst (strW' D.str ++ [.ref h.n]))).g D.sl = _ := Hm.put_same
  have a1 : D.sl ≠ h.n := by have := x0.lsl; omega
  have b1 : (h.push (.ins 4 [])).g D.sl = some (.lst (strW' D.str)) := by rw [Hm.push_lt x0.lsl]; exact x0.sl
  refine ⟨_, ?_, (u123.trans u4).perm (List.Perm.refl _) ?_⟩
  · rw [run_fn (Lib1.f53 (T := T)) rfl rfl]
    revert a4 l4 sl
    generalize h3.put D.sl (.lst (strW' D.str ++ [.ref h.n])) = h4
    intro sl a4 l4
    simp only [oD] at a4
    have sll : (strW' D.str).length = D.str.length := List.length_map _
    simp [P.F_Desk_begin, P.b_Desk_begin, startW, u_fldW, x0.a, x0.sl, ‹run T (d + 2) 8 [.int D.p.hs] h = .ok (.bl true) h›, e2, u_kindR, u_app, xd.sl, sl, a4, l4, u_len, u_lenR, sll]
  · have e : ({ D with str := D.str ++ [newStm h.n] } : DS).cells = ((D.a, oD D) :: (D.sl, .lst (strW' D.str ++ [.ref h.n])) :: [(D.rdd, .dT (rdsW D.p.hs D.rds)), (D.fl, .dT D.fs), (D.ak, .lst []), (D.dn, .dT []), (D.tr, .lst D.ts)] ++ (D.p.cells ++ scs D.p.hs D.str)) ++ [(h.n, oS D.p.hs (newStm h.n)), (h.n + 1, oW (newStm h.n).w), (h.n + 2, .lst [])] := by
      simp [DS.cells, DS.base, strW', scs, Stm.cells, newStm, oD, WS.cells, prs, pcs]
    rw [e]
    refine (List.Perm.append_right _ (?_ : [(h.n + 2, O.lst []), (h.n + 1, oW (newStm h.n).w), (h.n, oS D.p.hs (newStm h.n))].Perm _)).trans List.perm_append_comm
    exact (List.reverse_perm [(h.n, oS D.p.hs (newStm h.n)), (h.n + 1, oW (newStm h.n).w), (h.n + 2, .lst [])])
def DS.unf (D : DS) : Nat := (D.str.map fun s => s.w.ps.length - s.w.kn).sum
theorem intsL_map {ι : Type} (g : ι → Int) : ∀ ys : List ι, intsL (ys.map fun y => .int (g y)) = some (ys.map g)
  | [] => rfl
  | y :: ys => by
    have := intsL_map g ys
    simp only [List.map_cons]
    rw [intsL, this]
    rfl
theorem sum_cast (l : List Nat) : (l.map fun n : Nat => (n : Int)).sum = ((l.sum : Nat) : Int) := by
  induction l with
  | nil => rfl
  | cons a l ih => simp [ih]
theorem DFacts.up {l : Nat} (x : DFacts h D) : DFacts { h with lo := l } D := ⟨x.a, x.sl, x.rdd, x.fl, x.ak, x.dn, x.tr, x.la, x.lsl, x.lrd, x.lfl, x.lak, x.ldn, x.ltr, x.p, x.s⟩
theorem c_unfinished (x : DFacts h D) (f : h.lk = []) (hk : ∀ s, s ∈ D.str → s.w.kn ≤ s.w.ps.length) (hl : D.str.length ≤ line) : run T (d + 2) 64 [.ref D.a] h = .ok (.int (D.unf + D.str.length : Nat)) h := by
  refine run_pure_old (Lib1.f64 (T := T)) rfl rfl ?_ rfl
  obtain ⟨h0, e0⟩ : ∃ h0 : Hm, h0 = { h with lo := h.n } := ⟨_, rfl⟩
  have g0 : h0.g = h.g := by rw [e0]
  have n0 : h0.n = h.n := by rw [e0]
  have l0 : h0.lk = [] := by rw [e0]; exact f
  have sll : (strW' D.str).length = D.str.length := List.length_map _
  have e1 : evE (T.cf (run T (d + 1))) (.comp (.meth (.attr (.loc 4) 13) 96 .nil) (.one 4) (.val (.attr (.loc 0) 21)) (.con (.bl true))) [some (.ref D.a), none, none, none, none, none] h0 = .ok (.ref h0.n) (h0.push (.lst (D.str.map fun s => .int (s.w.ps.length - s.w.kn : Nat)))) := by
    refine comp_map (k := fun s : Stm => W.ref s.ra) (gd := [(D.sl, strW' D.str)]) ?_ ?_ (stays_one (by rw [g0]; exact x.sl)) (fun s m => ⟨_, rfl, ?_, ?_⟩) hl
    · simp [u_fldW, g0, x.a, toLock_ref, x.sl]
    · simp [u_fldW, g0, x.a, u_planR, u_planLR, x.sl, strW']
    · simp
    · have xs := x.s s m
      have xw := (Stm.wr xs).writer
      have b1 : run T (d + 1) 44 [.ref s.w.a] h0 = .ok (.int ((s.w.ps.length : Int) - s.w.kn)) h0 := c_left ⟨by rw [g0]; exact xw.a, by rw [g0]; exact xw.pl, by rw [n0]; exact xw.la, by rw [n0]; exact xw.lpl, fun q m => by rw [g0, n0]; exact xw.p q m⟩
      have e : ((s.w.ps.length : Int) - s.w.kn) = ((s.w.ps.length - s.w.kn : Nat) : Int) := by have := hk s m; omega
      rw [e] at b1
      simp [u_fldW, g0, (Stm.row xs).1, xw.a, b1]
  rw [← e0]
  have na : D.a ≠ h.n := by have := x.la; omega
  have nak : D.ak ≠ h.n := by have := x.lak; omega
  have nak1 : D.ak ≠ h.n + 1 := by have := x.lak; omega
  have ndn : D.dn ≠ h.n := by have := x.ldn; omega
  have na1 : D.a ≠ h.n + 1 := by have := x.la; omega
  have ndn1 : D.dn ≠ h.n + 1 := by have := x.ldn; omega
  have ndn2 : D.dn ≠ h.n + 2 := by have := x.ldn; omega
  have na2 : D.a ≠ h.n + 2 := by have := x.la; omega
  have nsl : D.sl ≠ h.n := by have := x.lsl; omega
  have nsl1 : D.sl ≠ h.n + 1 := by have := x.lsl; omega
  have nsl2 : D.sl ≠ h.n + 2 := by have := x.lsl; omega
  have nl : ∀ (h : Hm), newL [] h = .ok (.ref h.n) (h.push (.lst [])) := fun h => newL_eq (by decide)
  have sm : (intsL (D.str.map fun s => .int (s.w.ps.length - s.w.kn : Nat))) = some (D.str.map fun s => ((s.w.ps.length - s.w.kn : Nat) : Int)) := intsL_map _ _
  have sm2 : (D.str.map fun s => ((s.w.ps.length - s.w.kn : Nat) : Int)).sum = (D.unf : Int) := by
    rw [DS.unf, ← sum_cast, List.map_map]
    rfl
  have eb : P.b_Desk_unfinished = .of [.set (.one 1) (.bi .sum (.of [.comp (.meth (.attr (.loc 4) 13) 96 .nil) (.one 4) (.val (.attr (.loc 0) 21)) (.con (.bl true))])), .set (.one 2) (.bi .len (.of [.comp (.loc 4) (.one 4) (.val (.attr (.loc 0) 24)) (.cmp .isn (.attr (.loc 4) 18) (.con .non))])), .set (.one 3) (.bi .len (.of [.comp (.loc 5) (.one 5) (.val (.attr (.loc 0) 25)) (.not (.attr (.sub (.attr (.loc 0) 25) (.loc 5)) 127))])), .ret (.bin .add (.bin .add (.bin .add (.loc 1) (.loc 2)) (.loc 3)) (.bi .len (.of [.attr (.loc 0) 21])))] := rfl
  simp only [P.F_Desk_unfinished, eb, startW, Sms.of_cons, Sms.of_nil, evSs_cons, evSs_nil, Exs.of_cons, Exs.of_nil]
  simp [-q_evE_comp, e1, u_sum, u_rdL, sm, sm2]
  obtain ⟨h1, e1h⟩ : ∃ h1, h1 = h0.push (.lst (D.str.map fun s => .int (s.w.ps.length - s.w.kn : Nat))) := ⟨_, rfl⟩
  have n1 : h1.n = h.n + 1 := by rw [e1h, Hm.push_n, n0]
  have l1 : h1.lk = [] := by rw [e1h]; exact l0
  have g1 : ∀ a, a < h.n → h1.g a = h.g a := fun a q => by rw [e1h, Hm.push_lt (by rw [n0]; exact q), g0]
  rw [← e1h]
  have a1 := (g1 _ x.la).trans x.a
  have ak1 := (g1 _ x.lak).trans x.ak
  have dn1 := (g1 _ x.ldn).trans x.dn
  have sl1 := (g1 _ x.lsl).trans x.sl
  simp [u_fldW, a1, ak1, toLock_ref, u_planR, u_planLR, u_stays, compL, nl, u_len, u_lenR, n1, Hm.push_g, na1, ndn1, dn1]
  have hrk : h1.relk [] = h1 := by rw [← l1]; rfl
  rw [withLock_some (by simp [l1]) (by simp [n1]; have := x.ldn; omega) (by simp [Hm.push_g, n1, ndn1, dn1])]
  simp [u_fldW, a1, dn1, u_planR, l1, hrk, compL, nl, u_len, u_lenR, n1, Hm.push_g, na1, na2, ndn1, nsl1, nsl2, sl1, sll]
theorem c_is_idle (x : DFacts h D) (f : h.lk = []) (hk : ∀ s, s ∈ D.str → s.w.kn ≤ s.w.ps.length) (hl : D.str.length ≤ line) : run T (d + 3) 65 [.ref D.a] h = .ok (.bl (decide (D.unf = 0))) h := by
  have b1 : run T (d + 2) 64 [.ref D.a] { h with lo := h.n } = .ok (.int (D.unf + D.str.length : Nat)) { h with lo := h.n } := c_unfinished x.up f hk hl
  refine run_pure_old (Lib1.f65 (T := T)) rfl rfl ?_ rfl
  have sll : (strW' D.str).length = D.str.length := List.length_map _
  have e : (((D.unf + D.str.length : Nat) : Int) = (D.str.length : Int)) = (D.unf = 0) := propext (by omega)
  simp [P.F_Desk_is_idle, P.b_Desk_is_idle, startW, u_fldW, x.a, b1, x.sl, u_len, u_lenR, sll]
  omega
end
end Mn
end
section
set_option Elab.async false
set_option linter.all false
set_option maxRecDepth 100000
set_option maxHeartbeats 4000000
namespace Mn
open PySem L2
theorem Upd.row {h : Hm} {hs : Nat} {s : Stm} {n : Nat} (x : Has h (s.cells hs)) : Upd h (h.put s.ra (oS hs { s with nx := n })) (s.cells hs) (({ s with nx := n } : Stm).cells hs) := Upd.put x
section
variable {T : Tx} [Lib1 T] {d : Nat} {h : Hm} {D : DS}
def DS.part (D : DS) (k n : Nat) (body : List Nat) (s : Stm) : DS := { D with p := D.p.sent (Str.ofString "part") (dg2 k ++ dg2 n) body, str := D.str.set k { s with nx := max s.nx (n + 1) } }
theorem dg2_mem {n : Nat} (hn : n < 9409) : ∀ x ∈ dg2 n, x < 97 := by
  intro x m
  simp [dg2] at m
  omega
theorem dg3_mem {n : Nat} (hn : n < 912673) : ∀ x ∈ dg3 n, x < 97 := by
  intro x m
  simp [dg3] at m
  omega
theorem c_send_part (x : Has h D.cells) (f : Free h) {k n : Nat} {s : Stm} (m : D.str[k]? = some s) {body : List Nat} (hk : k < 9409) (hn : n < 9409) (h1 : D.p.made ≤ 900000) (h2 : D.p.hs < 32) (h4 : body.length ≤ 56) (h6 : ∀ x ∈ body, x < 97) (hr : D.p.rs.length < line) (ho : D.p.os.length < line) :
    ∃ h', run T (d + 6) 67 [.ref D.a, .int k, .int n, .tup (nts body)] h = .ok .non h' ∧ Upd h h' D.cells (D.part k n body s).cells := by
  have x0 := x.desk
  have xs := x0.s s (List.mem_of_getElem? m)
  have rw0 := (Stm.row xs).1
  have sb : Mn.sub (.ref D.sl) (.int k) h = some (.ref s.ra) := sub_at x0.sl (by simp [strW', m])
  obtain ⟨ha, ea⟩ : ∃ ha, ha = ((h.push (.lst (nts (dg2 k)))).push (.lst (nts (dg2 n)))).push (.lst (nts (dg2 k ++ dg2 n))) := ⟨_, rfl⟩
  have b1 : run T (d + 5) 6 [.int k, .int 2] h = .ok (.ref h.n) (h.push (.lst (nts (dg2 k)))) := c_number2 hk
  have b2 : run T (d + 5) 6 [.int n, .int 2] (h.push (.lst (nts (dg2 k)))) = .ok (.ref (h.n + 1)) ((h.push (.lst (nts (dg2 k)))).push (.lst (nts (dg2 n)))) := c_number2 hn
  have cat : newL (nts (dg2 k) ++ nts (dg2 n)) ((h.push (.lst (nts (dg2 k)))).push (.lst (nts (dg2 n)))) = .ok (.ref (h.n + 2)) ha := by
    rw [ea, ← nts_append]
    exact newL_eq (by simp [dg2])
  have fr : Fr [] h ha := by rw [ea]; exact ((Fr.refl.push).push).push
  have u1 : Upd h ha D.cells D.cells := Upd.of_fr x fr
  have f1 := u1.free f
  have x1 := u1.has.desk
  have gt : ha.g (h.n + 2) = some (.lst (nts (dg2 k) ++ nts (dg2 n))) := by rw [ea, ← nts_append]; simp [Hm.push_g]
  obtain ⟨h2', e2, u2⟩ := c_post (T := T) (d := d) (kind := Str.ofString "part") (about := dg2 k ++ dg2 n) (body := body) x1.p f1 h1 h2 (fun h => kinds_part) (by decide +kernel) (by simp [dg2]) h4 (fun y q => (List.mem_append.mp q).elim (dg2_mem hk y) (dg2_mem hn y)) h6 hr ho
  have v2 := Upd.post u2 u1.has rfl rfl
  have x2 := v2.has.desk
  have xs2 : Has h2' (s.cells D.p.hs) := x2.s s (List.mem_of_getElem? m)
  have rw1 := (Stm.row (x1.s s (List.mem_of_getElem? m))).1
  have rw2 := (Stm.row xs2).1
  have u3 : Upd h2' (h2'.put s.ra (oS D.p.hs { s with nx := max s.nx (n + 1) })) _ (D.part k n body s).cells := Upd.stm (D := { D with p := D.p.sent (Str.ofString "part") (dg2 k ++ dg2 n) body }) (s' := { s with nx := max s.nx (n + 1) }) m (Upd.row xs2) v2.has rfl
  refine ⟨_, ?_, (u1.trans v2).trans u3⟩
  have e2 : run T (d + 5) 145 [.ref D.p.a, .int D.p.hs, .str (Str.ofString "part"), .tup (nts (dg2 k) ++ nts (dg2 n)), .tup (nts body)] ha = .ok (lett D.p.made D.p.hs (Str.ofString "part") (dg2 k ++ dg2 n) body) h2' := by rw [← nts_append]; exact e2
  have f2 := v2.free f1
  have em : (if (s.nx : Int) < (n : Int) + 1 then (n : Int) + 1 else (s.nx : Int)) = ((max s.nx (n + 1) : Nat) : Int) := by
    split <;> omega
  have pa := x0.p.post.a
  have pa1 := x1.p.post.a
  rw [run_fn (Lib1.f67 (T := T)) rfl rfl]
  simp only [oPost] at pa pa1
  simp [P.F_Desk_send_part, P.b_Desk_send_part, startW, u_fldW, x0.a, sb, b1, b2, u_catR, Hm.push_g, cat, u_tupR, u_rdL, gt, x1.a, rw1, pa1, e2, rw2, f2.lo, oS]
  rw [em]
theorem look_rds {hs k : Nat} : ∀ l : List (Nat × Nat), look [Sum.inl (hs : Int), Sum.inl (k : Int)] (rdsW hs l) = (l.lookup k).map W.ref
  | [] => rfl
  | (j, a) :: l => by
    have ih := look_rds (hs := hs) (k := k) l
    rw [show rdsW hs ((j, a) :: l) = ([.inl (hs : Int), .inl (j : Int)], .ref a) :: rdsW hs l from rfl, look_cons, List.lookup_cons]
    by_cases q : j = k
    · subst q
      simp
    · have q2 : ¬ (k == j) = true := by simp; omega
      rw [if_neg (by simp; omega), ih]
      simp [q2]
theorem Stm.rdr {s : Stm} {hs : Nat} {r : RdS} (x : Has h (s.cells hs)) (e : s.rd = some r) : Has h r.cells := by
  have := x.tail.right
  rw [e] at this
  exact this
theorem RdS.rowf {r : RdS} (x : Has h r.cells) : h.g r.row = some (.ins 13 [(68, .ref r.a), (132, .int r.cnt)]) ∧ r.row < h.n := ⟨(x.2 _ List.mem_cons_self).2, (x.2 _ List.mem_cons_self).1⟩
def DS.had (D : DS) (k c : Nat) : DS := { D with p := D.p.sent (Str.ofString "had") (0 :: dg2 k) (dg3 c) }
theorem c_send_count (x : Has h D.cells) (f : Free h) {k : Nat} {s : Stm} {r : RdS} (m : D.str[k]? = some s) (er : s.rd = some r) (el : D.rds.lookup k = some r.row) (hk : k < 9409) (hc : r.cnt < 912673) (h1 : D.p.made ≤ 900000) (h2 : D.p.hs < 32) (hr : D.p.rs.length < line) (ho : D.p.os.length < line) :
    ∃ h', run T (d + 6) 68 [.ref D.a, .int D.p.hs, .int k] h = .ok .non h' ∧ Upd h h' D.cells (D.had k r.cnt).cells := by
  have x0 := x.desk
  have xs := x0.s s (List.mem_of_getElem? m)
  have xr := Stm.rdr xs er
  have rr := RdS.rowf xr
  obtain ⟨h3, e3⟩ : ∃ h3, h3 = ((h.push (.lst [.int 0])).push (.lst (nts (dg2 k)))).push (.lst (nts (0 :: dg2 k))) := ⟨_, rfl⟩
  obtain ⟨ha, ea⟩ : ∃ ha, ha = h3.push (.lst (nts (dg3 r.cnt))) := ⟨_, rfl⟩
  have nl1 : newL [.int 0] h = .ok (.ref h.n) (h.push (.lst [.int 0])) := newL_eq (by simp)
  have b1 : run T (d + 5) 6 [.int k, .int 2] (h.push (.lst [.int 0])) = .ok (.ref (h.n + 1)) ((h.push (.lst [.int 0])).push (.lst (nts (dg2 k)))) := c_number2 hk
  have n3 : h3.n = h.n + 3 := by rw [e3]; rfl
  have b2 : run T (d + 5) 6 [.int r.cnt, .int 3] h3 = .ok (.ref (h.n + 3)) ha := by rw [ea, ← n3]; exact c_number3 hc
  have cat : newL (.int 0 :: nts (dg2 k)) ((h.push (.lst [.int 0])).push (.lst (nts (dg2 k)))) = .ok (.ref (h.n + 2)) h3 := by
    rw [e3]
    exact newL_eq (by simp [dg2])
  have fr : Fr [] h h3 := by rw [e3]; exact ((Fr.refl.push).push).push
  have u1 : Upd h h3 D.cells D.cells := Upd.of_fr x fr
  have fr2 : Fr [] h3 ha := by rw [ea]; exact Fr.refl.push
  have u2 : Upd h3 ha D.cells D.cells := Upd.of_fr u1.has fr2
  have f1 := u1.free f
  have f2 := u2.free f1
  have x1 := u1.has.desk
  have x2 := u2.has.desk
  have g1 : ha.g (h.n + 2) = some (.lst (.int 0 :: nts (dg2 k))) := by rw [ea, Hm.push_lt (by rw [n3]; omega), e3]; simp [Hm.push_g]
  have g2 : ha.g (h.n + 3) = some (.lst (nts (dg3 r.cnt))) := by rw [ea, ← n3]; simp
  obtain ⟨h4, e4, u4⟩ := c_post (T := T) (d := d) (kind := Str.ofString "had") (about := 0 :: dg2 k) (body := dg3 r.cnt) x2.p f2 h1 h2 (fun h => kinds_had) (by decide +kernel) (by simp [dg2]) (by simp [dg3]) (fun y q => (List.mem_cons.mp q).elim (fun q => by omega) (dg2_mem hk y)) (dg3_mem hc) hr ho
  have e4 : run T (d + 5) 145 [.ref D.p.a, .int D.p.hs, .str (Str.ofString "had"), .tup (.int 0 :: nts (dg2 k)), .tup (nts (dg3 r.cnt))] ha = .ok (lett D.p.made D.p.hs (Str.ofString "had") (0 :: dg2 k) (dg3 r.cnt)) h4 := e4
  refine ⟨h4, ?_, (u1.trans u2).trans (Upd.post u4 u2.has rfl rfl)⟩
  have pa2 := x2.p.post.a
  have lr := look_rds (hs := D.p.hs) (k := k) D.rds
  rw [el] at lr
  have r1 := (RdS.rowf (Stm.rdr (x1.s s (List.mem_of_getElem? m)) er)).1
  rw [run_fn (Lib1.f68 (T := T)) rfl rfl]
  simp only [oPost] at pa2
  simp [P.F_Desk_send_count, P.b_Desk_send_count, startW, u_fldW, nl1, b1, u_catR, Hm.push_g, cat, x1.a, u_subR, x1.rdd, u_dgetR, keysOf, keyOf, lr, r1, b2, x2.a, pa2, u_tupR, u_rdL, g1, g2, e4]
end
end Mn
end
section
set_option Elab.async false
set_option linter.all false
set_option maxRecDepth 100000
set_option maxHeartbeats 4000000
namespace Mn
open PySem L2
def Stm.cnt (s : Stm) : Nat := match s.rd with
  | some r => r.cnt
  | none => 0
def Stm.ss (s : Stm) : List Nat := match s.rd with
  | some r => r.ss
  | none => []
def Stm.rcl (s : Stm) : Bool := match s.rd with
  | some r => r.cl
  | none => false
theorem perm_in {α : Type} {R R' : List α} (B P J : List α) (q : R.Perm R') : (R ++ (B ++ (P ++ J))).Perm ((B ++ P) ++ (R' ++ J)) := by
  rw [← List.append_assoc B, ← List.append_assoc R, ← List.append_assoc (B ++ P)]
  exact List.Perm.append_right _ (List.perm_append_comm.trans (List.Perm.append_left _ q))
theorem putD_rds {hs k a : Nat} {l : List (Nat × Nat)} (e : l.lookup k = none) : putD [Sum.inl (hs : Int), Sum.inl (k : Int)] (.ref a) (rdsW hs l) = rdsW hs (l ++ [(k, a)]) := by
  have z : ((rdsW hs l).any fun kv => decide (kv.1 = [Sum.inl (hs : Int), Sum.inl (k : Int)])) = false := by
    rw [List.any_eq_false]
    intro c m
    obtain ⟨p, pm, rfl⟩ := List.mem_map.mp m
    have : p.1 ≠ k := fun q => by
      have := List.lookup_eq_none_iff.mp e p pm
      simp [q] at this
    simp
    omega
  unfold putD
  rw [z]
  simp [rdsW]
theorem Upd.rdr {h h' : Hm} {hs : Nat} {s : Stm} {r r' : RdS} (e : s.rd = some r) (u : Upd h h' r.cells r'.cells) (x : Has h (s.cells hs)) : Upd h h' (s.cells hs) (({ s with rd := some r' } : Stm).cells hs) := by
  have c : s.cells hs = ((s.ra, oS hs s) :: s.w.cells) ++ (r.cells ++ []) := by
    unfold Stm.cells
    rw [e]
    simp
  have c2 : ({ s with rd := some r' } : Stm).cells hs = ((s.ra, oS hs s) :: s.w.cells) ++ (r'.cells ++ []) := by
    unfold Stm.cells
    simp [oS]
  rw [c2]
  rw [c] at x ⊢
  exact u.inn x
section
variable {T : Tx} [Lib1 T] {d : Nat} {h : Hm} {D : DS}
def pcA : Sm := .ite (.cmp .notin (.tup (.of [.loc 1, .loc 3])) (.attr (.loc 0) 22)) (.of [.item (.attr (.loc 0) 22) (.tup (.of [.loc 1, .loc 3])) (.make 13 .nil)]) .nil
def pcB : Sm := .ite (.cmp .notin (.tup (.of [.loc 1, .loc 3, .loc 4])) (.attr (.loc 0) 23)) (.of [.item (.attr (.loc 0) 23) (.tup (.of [.loc 1, .loc 3, .loc 4])) (.loc 2)]) .nil
def pcC : Sm := .fld (.loc 5) 132 (.meth (.attr (.loc 5) 68) 118 (.of [.loc 4, .sub (.loc 2) (.con (.int 4))]))
def pcD : Sm := .for (.one 7) (.rng (.loc 6) (.attr (.loc 5) 132)) (.of [.expr (.bm .append (.attr (.loc 0) 26) (.of [.tup (.of [.tup (.of [.con (.str (Str.ofString "read")), .loc 1, .loc 3, .loc 7]), .sub (.attr (.loc 0) 23) (.tup (.of [.loc 1, .loc 3, .loc 7]))])]))])
theorem part_came_body : P.b_Desk_part_came = .of [.set (.one 3) (.call 7 (.of [.cut (.sub (.loc 2) (.con (.int 3))) (.con .non) (.con (.int 2))])), .set (.one 4) (.call 7 (.of [.cut (.sub (.loc 2) (.con (.int 3))) (.con (.int 2)) (.con .non)])), pcA, .set (.one 5) (.sub (.attr (.loc 0) 22) (.tup (.of [.loc 1, .loc 3]))), pcB, .set (.one 6) (.attr (.loc 5) 132), pcC, pcD, .expr (.meth (.loc 0) 134 (.of [.loc 1, .loc 3]))] := rfl
theorem c_pcA (x : Has h D.cells) (f : Free h) {k : Nat} {s : Stm} (m : D.str[k]? = some s) (el : D.rds.lookup k = s.rd.map RdS.row) (hl : D.rds.length < line) {l2 : Option W} {q : List (Option W)} :
    ∃ h' r rds', evS (T.cf (run T (d + 2))) pcA (some (.ref D.a) :: some (.int D.p.hs) :: l2 :: some (.int k) :: q) h = .nx (some (.ref D.a) :: some (.int D.p.hs) :: l2 :: some (.int k) :: q) h' ∧ Upd h h' D.cells ({ D with rds := rds', str := D.str.set k { s with rd := some r } } : DS).cells ∧ rds'.lookup k = some r.row ∧ (∀ j, j ≠ k → rds'.lookup j = D.rds.lookup j) ∧ rds'.map (·.1) = (if s.rd.isSome then D.rds.map (·.1) else D.rds.map (·.1) ++ [k]) ∧ r.cnt = s.cnt ∧ r.ss = s.ss ∧ r.cl = s.rcl := by
  have x0 := x.desk
  have lr := look_rds (hs := D.p.hs) (k := k) D.rds
  cases e : s.rd with
  | some r =>
    rw [el, e] at lr
    have es : ({ s with rd := some r } : Stm) = s := by cases s; simp at e; simp [e]
    have e3 : D.str.set k s = D.str := by
      obtain ⟨i, j, e1, e2, _⟩ := set_split (s' := s) m
      rw [e2, e1]
    refine ⟨h, r, D.rds, ?_, ?_, by rw [el, e]; rfl, fun _ _ => rfl, by simp, by simp [Stm.cnt, e], by simp [Stm.ss, e], by simp [Stm.rcl, e]⟩
    · simp at lr
      simp [pcA, u_fldW, x0.a, u_notin, u_inR, x0.rdd, u_dgetR, keysOf, keyOf, lr]
    · rw [es, e3]
      exact Upd.refl x
  | none =>
    rw [el, e] at lr
    simp at lr
    let r : RdS := ⟨h.n, h.n + 1, h.n + 2, h.n + 3, [], 0, false⟩
    have e2 : run T (d + 2) 163 [.ref h.n] (h.push (.ins 13 [])) = .ok .non ((((h.push (oRr r)).push (oR r)).push (.lst [])).push (.dK [])) := c_read_row (T := T) (d := d) f
    have u1 : Upd h (h.push (oRr r)) D.cells ((h.n, oRr r) :: D.cells) := Upd.add x
    have u2 : Upd (h.push (oRr r)) ((h.push (oRr r)).push (oR r)) _ ((h.n + 1, oR r) :: (h.n, oRr r) :: D.cells) := Upd.add u1.has
    have u3 : Upd ((h.push (oRr r)).push (oR r)) (((h.push (oRr r)).push (oR r)).push (.lst [])) _ ((h.n + 2, .lst []) :: (h.n + 1, oR r) :: (h.n, oRr r) :: D.cells) := Upd.add u2.has
    have u4 : Upd (((h.push (oRr r)).push (oR r)).push (.lst [])) ((((h.push (oRr r)).push (oR r)).push (.lst [])).push (.dK [])) _ ((h.n + 3, .dK []) :: (h.n + 2, .lst []) :: (h.n + 1, oR r) :: (h.n, oRr r) :: D.cells) := Upd.add u3.has
    have u14 := ((u1.trans u2).trans u3).trans u4
    revert e2 u14
    generalize (((h.push (oRr r)).push (oR r)).push (.lst [])).push (.dK []) = h4
    intro e2 u14
    have f4 := u14.free f
    have xd := (u14.has.tail.tail.tail.tail).desk
    have u5 : Upd h4 (h4.put D.rdd (.dT (rdsW D.p.hs (D.rds ++ [(k, h.n)])))) _ _ := Upd.mid (o' := .dT (rdsW D.p.hs (D.rds ++ [(k, h.n)]))) [(h.n + 3, .dK []), (h.n + 2, .lst []), (h.n + 1, oR r), (h.n, oRr r), (D.a, oD D), (D.sl, .lst (strW' D.str))] u14.has
    have sd : setD h4 D.rdd (.dT (rdsW D.p.hs (D.rds ++ [(k, h.n)]))) .non = .ok .non _ := u_setD (by simp [f4.lo]) (by simp [f4.lk])
    have rl : (rdsW D.p.hs D.rds).length < line := by simpa [rdsW] using hl
    have pd := putD_rds (hs := D.p.hs) (a := h.n) (l := D.rds) (k := k) (by rw [el, e]; rfl)
    refine ⟨_, r, D.rds ++ [(k, h.n)], ?_, (u14.trans u5).perm (List.Perm.refl _) ?_, ?_, ?_, by simp, by simp [Stm.cnt, e, r], by simp [Stm.ss, e, r], by simp [Stm.rcl, e, r]⟩
    · simp [pcA, u_fldW, x0.a, u_notin, u_inR, x0.rdd, u_dgetR, keysOf, keyOf, lr, e2, xd.a, u_sett, xd.rdd, rl, pd, sd]
    · obtain ⟨i, j, e1, e3, _⟩ := set_split (s' := { s with rd := some r }) m
      have c : ({ D with rds := D.rds ++ [(k, h.n)], str := D.str.set k { s with rd := some r } } : DS).cells = ((D.a, oD D) :: (D.sl, .lst (strW' D.str)) :: (D.rdd, .dT (rdsW D.p.hs (D.rds ++ [(k, h.n)]))) :: [(D.fl, .dT D.fs), (D.ak, .lst []), (D.dn, .dT []), (D.tr, .lst D.ts)] ++ (D.p.cells ++ (scs D.p.hs i ++ s.cells D.p.hs))) ++ ([(h.n, oRr r), (h.n + 1, oR r), (h.n + 2, .lst []), (h.n + 3, .dK [])] ++ scs D.p.hs j) := by
        rw [show ({ D with rds := D.rds ++ [(k, h.n)], str := D.str.set k { s with rd := some r } } : DS) = { D with rds := D.rds ++ [(k, h.n)], str := i ++ { s with rd := some r } :: j } by rw [e3]]
        simp only [DS.cells, DS.base, e1]
        simp [strW', scs, Stm.cells, e, oD, oS, RdS.cells, RdS.rc, r]
      have c2 : D.p.cells ++ scs D.p.hs D.str = (D.p.cells ++ (scs D.p.hs i ++ s.cells D.p.hs)) ++ scs D.p.hs j := by
        rw [e1]
        simp [scs]
      rw [c]
      show ([(h.n + 3, O.dK []), (h.n + 2, .lst []), (h.n + 1, oR r), (h.n, oRr r)] ++ ((D.a, oD D) :: (D.sl, .lst (strW' D.str)) :: (D.rdd, .dT (rdsW D.p.hs (D.rds ++ [(k, h.n)]))) :: [(D.fl, .dT D.fs), (D.ak, .lst []), (D.dn, .dT []), (D.tr, .lst D.ts)] ++ (D.p.cells ++ scs D.p.hs D.str))).Perm _
      rw [c2]
      exact perm_in _ _ _ (List.reverse_perm [(h.n, oRr r), (h.n + 1, oR r), (h.n + 2, O.lst []), (h.n + 3, O.dK [])])
    · rw [List.lookup_append, el, e]
      simp [r]
    · intro j hj
      have : ¬ (j == k) = true := by simpa using hj
      rw [List.lookup_append]
      simp [List.lookup_cons, this]
theorem putD_new {κ : Type} [DecidableEq κ] {k : κ} {v : W} : ∀ {l : List (κ × W)}, look k l = none → putD k v l = l ++ [(k, v)] ∧ look k (l ++ [(k, v)]) = some v := fun {l} e => by
  have z : (l.any fun kv => decide (kv.1 = k)) = false ∧ look k (l ++ [(k, v)]) = some v := by
    induction l with
    | nil => exact ⟨rfl, by simp⟩
    | cons c l ih =>
      obtain ⟨j, w⟩ := c
      rw [look_cons] at e
      by_cases q : j = k
      · rw [if_pos q] at e
        cases e
      · rw [if_neg q] at e
        have := ih e
        refine ⟨by simpa [q] using this.1, ?_⟩
        rw [List.cons_append, look_cons, if_neg q]
        exact this.2
  unfold putD
  rw [z.1]
  exact ⟨rfl, z.2⟩
theorem c_pcB (x : Has h D.cells) (f : Free h) (hl : D.fs.length < line) {k n : Nat} {lt : W} {q : List (Option W)} :
    ∃ h' fs' w, evS (T.cf (run T (d + 2))) pcB (some (.ref D.a) :: some (.int D.p.hs) :: some lt :: some (.int k) :: some (.int n) :: q) h = .nx (some (.ref D.a) :: some (.int D.p.hs) :: some lt :: some (.int k) :: some (.int n) :: q) h' ∧ Upd h h' D.cells ({ D with fs := fs' } : DS).cells ∧ look [Sum.inl (D.p.hs : Int), Sum.inl (k : Int), Sum.inl (n : Int)] fs' = some w ∧ fs'.length ≤ D.fs.length + 1 := by
  have x0 := x.desk
  cases e : look [Sum.inl (D.p.hs : Int), Sum.inl (k : Int), Sum.inl (n : Int)] D.fs with
  | some w =>
    refine ⟨h, D.fs, w, ?_, Upd.refl x, e, by omega⟩
    simp [pcB, u_fldW, x0.a, u_notin, u_inR, x0.fl, u_dgetR, keysOf, keyOf, e]
  | none =>
    have pd := putD_new (v := lt) e
    have u1 : Upd h (h.put D.fl (.dT (D.fs ++ [([Sum.inl (D.p.hs : Int), Sum.inl (k : Int), Sum.inl (n : Int)], lt)]))) D.cells ({ D with fs := D.fs ++ [([Sum.inl (D.p.hs : Int), Sum.inl (k : Int), Sum.inl (n : Int)], lt)] } : DS).cells := Upd.mid [(D.a, oD D), (D.sl, .lst (strW' D.str)), (D.rdd, .dT (rdsW D.p.hs D.rds))] x
    have sd : setD h D.fl (.dT (D.fs ++ [([Sum.inl (D.p.hs : Int), Sum.inl (k : Int), Sum.inl (n : Int)], lt)])) .non = .ok .non _ := u_setD (by simp [f.lo]) (by simp [f.lk])
    refine ⟨_, _, lt, ?_, u1, pd.2, by simp⟩
    simp [pcB, u_fldW, x0.a, u_notin, u_inR, x0.fl, u_dgetR, keysOf, keyOf, e, u_sett, hl, pd.1, sd]
theorem c_pcC (x : Has h D.cells) (f : Free h) {k : Nat} {s : Stm} {r : RdS} (m : D.str[k]? = some s) (er : s.rd = some r) {b : Nat} {l : List Nat} (hl : r.ss.length + l.length ≤ line) (hl2 : l.length < line) {w0 w1 w2 w3 : W} {l0 l1 l3 : Option W} {q : List (Option W)} :
    ∃ h', evS (T.cf (run T (d + 2))) pcC (l0 :: l1 :: some (.tup [w0, w1, w2, w3, .tup (nts (b :: l))]) :: l3 :: some (.int r.cnt) :: some (.ref r.row) :: q) h = .nx (l0 :: l1 :: some (.tup [w0, w1, w2, w3, .tup (nts (b :: l))]) :: l3 :: some (.int r.cnt) :: some (.ref r.row) :: q) h' ∧
      Upd h h' D.cells ({ D with str := D.str.set k { s with rd := some { r with ss := r.ss ++ l, cnt := r.cnt + 1, cl := decide (b = 1) } } } : DS).cells := by
  have x0 := x.desk
  have xs := x0.s s (List.mem_of_getElem? m)
  have xr := Stm.rdr xs er
  have rr := (RdS.rowf xr).1
  have ra := (Has.reader (r := r) xr.tail).a
  obtain ⟨h1, e1, u1⟩ := c_take (T := T) (d := d + 1) (r := r) (b := b) (l := l) xr.tail f hl hl2
  have v1 := u1.cons xr
  have f1 := v1.free f
  have r1 : h1.g r.row = some (.ins 13 [(68, .ref r.a), (132, .int r.cnt)]) := (v1.has.2 _ List.mem_cons_self).2
  have v2 : Upd h1 (h1.put r.row (oRr { r with ss := r.ss ++ l, cnt := r.cnt + 1, cl := decide (b = 1) })) _ ({ r with ss := r.ss ++ l, cnt := r.cnt + 1, cl := decide (b = 1) } : RdS).cells := Upd.put v1.has
  refine ⟨h1.put r.row (oRr { r with ss := r.ss ++ l, cnt := r.cnt + 1, cl := decide (b = 1) }), ?_, Upd.stm m (Upd.rdr er (v1.trans v2) xs) x rfl⟩
  simp only [nts_cons] at e1
  simp [pcC, u_fldW, rr, u_subT, ixn, ra, e1, r1, f1.lo, oRr]
theorem c_pcD (x : Has h D.cells) (f : Free h) {k n : Nat} {s : Stm} {r : RdS} (m : D.str[k]? = some s) (er : s.rd = some r) (en : r.cnt = n + 1) (hn : n < 2 ^ 50) {w : W} (ef : look [Sum.inl (D.p.hs : Int), Sum.inl (k : Int), Sum.inl (n : Int)] D.fs = some w) (hl : D.ts.length < line) {l2 l4 l7 : Option W} :
    ∃ h' w', evS (T.cf (run T (d + 2))) pcD [some (.ref D.a), some (.int D.p.hs), l2, some (.int k), l4, some (.ref r.row), some (.int n), l7] h = .nx [some (.ref D.a), some (.int D.p.hs), l2, some (.int k), l4, some (.ref r.row), some (.int n), some (.int n)] h' ∧ Upd h h' D.cells ({ D with ts := D.ts ++ [w'] } : DS).cells := by
  have x0 := x.desk
  have xs := x0.s s (List.mem_of_getElem? m)
  have rr := (RdS.rowf (Stm.rdr xs er)).1
  rw [en] at rr
  have rg : evI (T.cf (run T (d + 2))) (.rng (.loc 6) (.attr (.loc 5) 132)) [some (.ref D.a), some (.int D.p.hs), l2, some (.int k), l4, some (.ref r.row), some (.int n), l7] h = .ok ⟨[.int n], []⟩ h := by
    rw [evI_rngN (m := n) (n := n + 1) (by simp) (by simp [u_fldW, rr]) (by omega) (by omega)]
    simp
  let w' : W := .tup [.tup [.str (Str.ofString "read"), .int D.p.hs, .int k, .int n], w]
  have u1 : Upd h (h.put D.tr (.lst (D.ts ++ [w']))) D.cells ({ D with ts := D.ts ++ [w'] } : DS).cells := Upd.mid [(D.a, oD D), (D.sl, .lst (strW' D.str)), (D.rdd, .dT (rdsW D.p.hs D.rds)), (D.fl, .dT D.fs), (D.ak, .lst []), (D.dn, .dT [])] x
  have sl : setL h D.tr (D.ts ++ [w']) .non = .ok .non _ := u_setL (by simp [f.lo]) (by simp; omega)
  refine ⟨_, w', ?_, u1⟩
  rw [pcD, evS_for]
  simp only [evL_rng, toLock_st, withLock_none, rg, R.fl_ok]
  simp [forL, stays, u_fldW, x0.a, x0.tr, u_kindR, u_app, u_subR, x0.fl, u_dgetR, keysOf, keyOf, ef]
  show ((((setL h D.tr (D.ts ++ [w']) .non).fl _ _).seq _).seq _) = _
  rw [sl]
  rfl
theorem cut_2a (a b c e : W) : cut [a, b, c, e] none (some 2) = [a, b] := rfl
theorem cut_2b (a b c e : W) : cut [a, b, c, e] (some 2) none = [c, e] := rfl
theorem c_part_came (x : Has h D.cells) (f : Free h) {k n : Nat} {s : Stm} (m : D.str[k]? = some s) (el : D.rds.lookup k = s.rd.map RdS.row) (en : s.cnt = n) (hk : k < 9409) (hn : n < 9409) (h1 : D.p.made ≤ 900000) (h2 : D.p.hs < 32) (hr : D.p.rs.length < line) (ho : D.p.os.length < line)
    (hrd : D.rds.length < line) (hfs : D.fs.length < line) (hts : D.ts.length < line) {b id : Nat} {l : List Nat} {kind : Str} (hl : s.ss.length + l.length ≤ line) (hl2 : l.length < line) :
    ∃ h' r rds' fs' w', run T (d + 7) 71 [.ref D.a, .int D.p.hs, lett id D.p.hs kind (dg2 k ++ dg2 n) (b :: l)] h = .ok .non h' ∧ Upd h h' D.cells (({ D with rds := rds', fs := fs', ts := D.ts ++ [w'], str := D.str.set k { s with rd := some r } } : DS).had k (n + 1)).cells ∧
      rds'.lookup k = some r.row ∧ (∀ j, j ≠ k → rds'.lookup j = D.rds.lookup j) ∧ rds'.map (·.1) = (if s.rd.isSome then D.rds.map (·.1) else D.rds.map (·.1) ++ [k]) ∧ fs'.length ≤ D.fs.length + 1 ∧ r.cnt = n + 1 ∧ r.ss = s.ss ++ l ∧ r.cl = decide (b = 1) := by
  have x0 := x.desk
  have lk : k < D.str.length := (List.getElem?_eq_some_iff.mp m).1
  have e3 : run T (d + 6) 7 [.tup [.int (k / 97 : Nat), .int (k % 97 : Nat)]] h = .ok (.int k) h := by
    have q := dg2_lt hk
    have := c_of2 (T := T) (d := d + 4) (h := h) q.1 q.2.1
    rw [q.2.2] at this
    exact this
  have e4 : run T (d + 6) 7 [.tup [.int (n / 97 : Nat), .int (n % 97 : Nat)]] h = .ok (.int n) h := by
    have q := dg2_lt hn
    have := c_of2 (T := T) (d := d + 4) (h := h) q.1 q.2.1
    rw [q.2.2] at this
    exact this
  obtain ⟨hA, r0, rds', eA, uA, lA, nA, oA, cA, sA, clA⟩ := c_pcA (T := T) (d := d + 4) x f m el hrd (l2 := some (lett id D.p.hs kind (dg2 k ++ dg2 n) (b :: l))) (q := [some (.int n), none, none, none])
  have fA := uA.free f
  have xA := uA.has.desk
  have mA : (D.str.set k { s with rd := some r0 })[k]? = some { s with rd := some r0 } := by simp [lk]
  have xsA := xA.s _ (List.mem_of_getElem? mA)
  have rrA := (RdS.rowf (Stm.rdr xsA rfl)).1
  have lrA := look_rds (hs := D.p.hs) (k := k) rds'
  rw [lA] at lrA
  obtain ⟨hB, fs', w, eB, uB, lB, nB⟩ := c_pcB (T := T) (d := d + 4) uA.has fA hfs (k := k) (n := n) (lt := lett id D.p.hs kind (dg2 k ++ dg2 n) (b :: l)) (q := [some (.ref r0.row), none, none])
  have fB := uB.free fA
  have xB := uB.has.desk
  have rrB := (RdS.rowf (Stm.rdr (xB.s _ (List.mem_of_getElem? mA)) rfl)).1
  have c0 : r0.cnt = n := cA.trans en
  obtain ⟨hC, eC, uC⟩ := c_pcC (T := T) (d := d + 4) uB.has fB mA rfl (b := b) (l := l) (by rw [sA]; exact hl) hl2 (w0 := .int id) (w1 := .tup [.int D.p.hs]) (w2 := .str kind) (w3 := .tup (nts (dg2 k ++ dg2 n))) (l0 := some (.ref D.a)) (l1 := some (.int D.p.hs)) (l3 := some (.int k)) (q := [some (.int n), none])
  have fC := uC.free fB
  let r : RdS := { r0 with ss := r0.ss ++ l, cnt := r0.cnt + 1, cl := decide (b = 1) }
  have st : (D.str.set k { s with rd := some r0 }).set k { s with rd := some r } = D.str.set k { s with rd := some r } := by simp
  have uC : Upd hB hC ({ D with rds := rds', fs := fs', str := D.str.set k { s with rd := some r0 } } : DS).cells ({ D with rds := rds', fs := fs', str := D.str.set k { s with rd := some r } } : DS).cells := by
    rw [← st]
    exact uC
  have mC : (D.str.set k { s with rd := some r })[k]? = some { s with rd := some r } := by simp [lk]
  obtain ⟨hD, w', eD, uD⟩ := c_pcD (T := T) (d := d + 4) uC.has fC mC rfl (n := n) (show r0.cnt + 1 = n + 1 by rw [c0]) (by omega) lB hts (l2 := some (lett id D.p.hs kind (dg2 k ++ dg2 n) (b :: l))) (l4 := some (.int n)) (l7 := none)
  have fD := uD.free fC
  have eD : evS (T.cf (run T (d + 6))) pcD [some (.ref D.a), some (.int D.p.hs), some (lett id D.p.hs kind (dg2 k ++ dg2 n) (b :: l)), some (.int k), some (.int n), some (.ref r0.row), some (.int n), none] hC = .nx [some (.ref D.a), some (.int D.p.hs), some (lett id D.p.hs kind (dg2 k ++ dg2 n) (b :: l)), some (.int k), some (.int n), some (.ref r0.row), some (.int n), some (.int n)] hD := eD
  obtain ⟨hE, eE, uE⟩ := c_send_count (T := T) (d := d) uD.has fD mC rfl lA hk (show r0.cnt + 1 < 912673 by omega) h1 h2 hr ho
  have xD := uD.has.desk
  refine ⟨hE, r, rds', fs', w', ?_, ?_, lA, nA, oA, nB, by show r0.cnt + 1 = _; rw [c0], by show r0.ss ++ l = _; rw [sA], rfl⟩
  · rw [run_fn (Lib1.f71 (T := T)) rfl rfl]
    rw [c0] at eC rrB
    have eE : run T (d + 6) 68 [.ref D.a, .int D.p.hs, .int k] hD = .ok .non hE := eE
    obtain ⟨q1, k1, e3⟩ : ∃ q, cut (nts (dg2 k) ++ nts (dg2 n)) none (some 2) = q ∧ run T (d + 6) 7 [.tup q] h = .ok (.int k) h := ⟨_, rfl, e3⟩
    obtain ⟨q2, k2, e4⟩ : ∃ q, cut (nts (dg2 k) ++ nts (dg2 n)) (some 2) none = q ∧ run T (d + 6) 7 [.tup q] h = .ok (.int n) h := ⟨_, rfl, e4⟩
    have xAa := xA.a
    have xAr := xA.rdd
    simp only [lett, nts_append, nts_cons] at eA eB eC eD
    simp [P.F_Desk_part_came, part_came_body, startW, lett, u_subT, ixn, cutB, u_cutT, k1, k2, e3, e4, eA, u_fldW, xAa, u_subR, xAr, u_dgetR, keysOf, keyOf, lrA, eB, rrB, eC, eD, xD.a, eE]
  · have : r0.cnt + 1 = n + 1 := by rw [c0]
    rw [← this]
    exact (((uA.trans uB).trans uC).trans uD).trans uE
end
end Mn
end
section
set_option Elab.async false
set_option linter.all false
set_option maxRecDepth 100000
set_option maxHeartbeats 4000000
namespace Mn
open PySem L2
section
variable {T : Tx} [Lib1 T] {d : Nat} {h : Hm} {D : DS}
def DS.known (D : DS) (k c : Nat) (s : Stm) : DS := { D with str := D.str.set k { s with w := { s.w with kn := max s.w.kn (min c s.w.ps.length) } } }
theorem c_had_came (x : Has h D.cells) (f : Free h) {k c : Nat} {s : Stm} (m : D.str[k]? = some s) (hk : k < 9409) (hc : c < 912673) {id : Nat} {kind : Str} :
    ∃ h', run T (d + 4) 72 [.ref D.a, .int D.p.hs, lett id D.p.hs kind (0 :: dg2 k) (dg3 c)] h = .ok .non h' ∧ Upd h h' D.cells (D.known k c s).cells := by
  have x0 := x.desk
  have xs := x0.s s (List.mem_of_getElem? m)
  obtain ⟨q1, k1, e1⟩ : ∃ q, cut (nts (0 :: dg2 k)) (some 1) none = q ∧ run T (d + 3) 7 [.tup q] h = .ok (.int k) h := ⟨_, rfl, by
    have q := dg2_lt hk
    have := c_of2 (T := T) (d := d + 1) (h := h) q.1 q.2.1
    rw [q.2.2] at this
    rw [nts_cons, cut_tail]
    exact this⟩
  obtain ⟨q2, k2, e2⟩ : ∃ q, nts (dg3 c) = q ∧ run T (d + 3) 7 [.tup q] h = .ok (.int c) h := ⟨_, rfl, by
    have q := dg3_lt hc
    have := c_of3 (T := T) (d := d + 1) (h := h) q.1 q.2.1 q.2.2.1
    rw [q.2.2.2] at this
    exact this⟩
  have sb : Mn.sub (.ref D.sl) (.int k) h = some (.ref s.ra) := sub_at x0.sl (by simp [strW', m])
  obtain ⟨h', e3, u⟩ := c_had (T := T) (d := d + 2) (n := c) (Stm.wr xs) f
  refine ⟨h', ?_, Upd.stm m (u.wr xs rfl) x rfl⟩
  have k1 : cut (.int 0 :: nts (dg2 k)) (some 1) none = q1 := k1
  rw [run_fn (Lib1.f72 (T := T)) rfl rfl]
  simp [P.F_Desk_had_came, P.b_Desk_had_came, startW, lett, u_subT, ixn, cutB, u_cutT, k1, e1, u_fldW, x0.a, sb, (Stm.row xs).1, (Stm.wr xs).writer.a, k2, e2, e3]
theorem c_here_part {id : Nat} {about body : List Nat} {h' : Hm} (x : DFacts h D) (e : run T (d + 1) 71 [.ref D.a, .int D.p.hs, lett id D.p.hs (Str.ofString "part") about body] h = .ok .non h') :
    run T (d + 2) 75 [.ref D.a, lett id D.p.hs (Str.ofString "part") about body] h = .ok .non h' := by
  rw [run_fn (Lib1.f75 (T := T)) rfl rfl]
  simp only [lett] at e
  simp [P.F_Desk_letter_here, P.b_Desk_letter_here, startW, lett, u_subT, ixn, x.a, e]
theorem c_here_had {id : Nat} {about body : List Nat} {h' : Hm} (x : DFacts h D) (e : run T (d + 1) 72 [.ref D.a, .int D.p.hs, lett id D.p.hs (Str.ofString "had") about body] h = .ok .non h') :
    run T (d + 2) 75 [.ref D.a, lett id D.p.hs (Str.ofString "had") about body] h = .ok .non h' := by
  have ne : Str.ofString "had" ≠ Str.ofString "part" := by decide +kernel
  rw [run_fn (Lib1.f75 (T := T)) rfl rfl]
  simp only [lett] at e
  simp [P.F_Desk_letter_here, P.b_Desk_letter_here, startW, lett, u_subT, ixn, x.a, e, ne]
structure WOk (w : WS) : Prop where
  p12 : ∀ p, p ∈ w.pp → p.length ≤ 12
  sg : ∀ p, p ∈ w.pp → ∀ x, x ∈ p → x < 96 ∧ x ≠ 5
  kn : w.kn ≤ w.ps.length
  ln : w.ps.length ≤ 9000
structure GOk (D : DS) : Prop where
  w : ∀ s, s ∈ D.str → WOk s.w
  n : D.str.length ≤ 200
  hs : D.p.hs < 32
structure Bnd (D : DS) (m : Nat) : Prop where
  made : D.p.made + m ≤ 900000
  rs : D.p.rs.length + m < line
  os : D.p.os.length + m < line
theorem Bnd.le {m n : Nat} (b : Bnd D m) (q : n ≤ m) : Bnd D n := ⟨by have := b.made; omega, by have := b.rs; omega, by have := b.os; omega⟩
theorem body_ok {w : WS} (o : WOk w) (n : Nat) : (w.body n).length ≤ 56 ∧ ∀ x ∈ w.body n, x < 97 := by
  unfold WS.body
  have z : w.pp.getD n [] = [] ∨ w.pp.getD n [] ∈ w.pp := by
    rw [List.getD_eq_getElem?_getD]
    cases e : w.pp[n]? with
    | none => exact .inl rfl
    | some p => exact .inr (List.mem_of_getElem? e)
  constructor
  · rcases z with z | z
    · simp only [List.length_cons, z, List.length_nil]
      omega
    · have := o.p12 _ z
      simp only [List.length_cons]
      omega
  · intro x m
    rcases List.mem_cons.mp m with q | m
    · subst q
      split <;> omega
    · rcases z with z | z
      · rw [z] at m
        cases m
      · have := (o.sg _ z x m).1
        omega
def sendF (k : Nat) (D : DS) (n : Nat) : DS := match D.str[k]? with
  | some s => if s.nx ≤ n then D.part k n (s.w.body n) s else D
  | none => D
def snI : Sms := .of [.ite (.cmp .ge (.loc 3) (.attr (.loc 2) 14)) (.of [.expr (.meth (.loc 0) 152 (.of [.loc 1, .loc 3, .loc 4]))]) .nil]
def snB : Sms := .of [.for (.row [3, 4]) (.val (.meth (.attr (.loc 2) 13) 144 .nil)) snI]
def snO : Sm := .for (.row [1, 2]) (.enum (.attr (.loc 0) 21)) snB
theorem send_new_body : P.b_Desk_send_new = .of [snO, .for (.row [3, 2]) (.enum (.attr (.loc 0) 24)) (.of [.ite (.and (.cmp .isn (.attr (.loc 2) 18) (.con .non)) (.not (.attr (.loc 2) 17))) (.of [.expr (.meth (.loc 0) 149 (.of [.loc 3]))]) .nil])] := rfl
theorem c_snI (x : Has h D.cells) (f : Free h) (g : GOk D) {m : Nat} (b : Bnd D (m + 1)) {k n : Nat} {s : Stm} (ms : D.str[k]? = some s) (hn : n < 9409) :
    ∃ h', evSs (T.cf (run T (d + 6))) snI [some (.ref D.a), some (.int k), some (.ref s.ra), some (.int n), some (.tup (nts (s.w.body n)))] h = .nx [some (.ref D.a), some (.int k), some (.ref s.ra), some (.int n), some (.tup (nts (s.w.body n)))] h' ∧ Upd h h' D.cells (sendF k D n).cells ∧ Bnd (sendF k D n) m := by
  have x0 := x.desk
  have xs := x0.s s (List.mem_of_getElem? ms)
  have lk : k < D.str.length := (List.getElem?_eq_some_iff.mp ms).1
  have hk : k < 9409 := by have := g.n; omega
  have bo := body_ok (g.w s (List.mem_of_getElem? ms)) n
  unfold sendF
  rw [ms]
  dsimp only
  by_cases q : s.nx ≤ n
  · rw [if_pos q]
    have b1 := b.made
    have b2 := b.rs
    have b3 := b.os
    obtain ⟨h', e, u⟩ := c_send_part (T := T) (d := d) (n := n) x f ms hk hn (by omega) g.hs bo.1 bo.2 (by omega) (by omega)
    refine ⟨h', ?_, u, ⟨?_, ?_, ?_⟩⟩
    · simp [snI, u_fldW, (Stm.row xs).1, q, x0.a, e]
    · show D.p.made + 1 + m ≤ 900000
      omega
    · show (D.p.rs ++ [_]).length + m < line
      simp
      omega
    · show (D.p.os ++ [_]).length + m < line
      simp
      omega
  · rw [if_neg q]
    exact ⟨h, by simp [snI, u_fldW, (Stm.row xs).1, q], Upd.refl x, b.le (by omega)⟩
theorem GOk.set (g : GOk D) {k : Nat} {s' : Stm} (w : WOk s'.w) : GOk { D with str := D.str.set k s' } := ⟨fun s m => by
  rcases List.mem_or_eq_of_mem_set m with m | m
  · exact g.w s m
  · subst m
    exact w, by simpa using g.n, g.hs⟩
theorem sendF_at (g : GOk D) {k n : Nat} {s : Stm} (ms : D.str[k]? = some s) : GOk (sendF k D n) ∧ (sendF k D n).a = D.a ∧ ∃ s', (sendF k D n).str[k]? = some s' ∧ s'.w = s.w ∧ s'.ra = s.ra := by
  have lk : k < D.str.length := (List.getElem?_eq_some_iff.mp ms).1
  unfold sendF
  rw [ms]
  dsimp only
  by_cases q : s.nx ≤ n
  · rw [if_pos q]
    refine ⟨?_, rfl, { s with nx := max s.nx (n + 1) }, by simp [DS.part, lk], rfl, rfl⟩
    have := g.set (k := k) (s' := { s with nx := max s.nx (n + 1) }) (g.w s (List.mem_of_getElem? ms))
    exact ⟨this.w, this.n, g.hs⟩
  · rw [if_neg q]
    exact ⟨g, rfl, s, ms, rfl, rfl⟩
theorem Upd.innE {A B E cs cs' : List (Nat × O)} {h h' : Hm} (u : Upd h h' cs (E ++ cs')) (x : Has h (A ++ (cs ++ B))) : Upd h h' (A ++ (cs ++ B)) (E ++ (A ++ (cs' ++ B))) :=
  (u.inn x).perm (List.Perm.refl _) (by
    rw [List.append_assoc, ← List.append_assoc A, ← List.append_assoc E]
    exact List.Perm.append_right _ List.perm_append_comm)
theorem Upd.stmE {E : List (Nat × O)} {h h' : Hm} {D : DS} {k : Nat} {s s' : Stm} (m : D.str[k]? = some s) (u : Upd h h' (s.cells D.p.hs) (E ++ s'.cells D.p.hs)) (x : Has h D.cells) (e : s'.ra = s.ra) : Upd h h' D.cells (E ++ ({ D with str := D.str.set k s' } : DS).cells) := by
  obtain ⟨i, j, e1, e2, _⟩ := set_split (s' := s') m
  have c1 : D.cells = (D.base ++ (D.p.cells ++ scs D.p.hs i)) ++ (s.cells D.p.hs ++ scs D.p.hs j) := by
    unfold DS.cells
    rw [e1]
    simp [scs]
  have c2 : ({ D with str := D.str.set k s' } : DS).cells = (D.base ++ (D.p.cells ++ scs D.p.hs i)) ++ (s'.cells D.p.hs ++ scs D.p.hs j) := by
    have b : ({ D with str := D.str.set k s' } : DS).base = D.base := by
      unfold DS.base
      simp only
      rw [e2, e1]
      simp [strW', e, oD]
    unfold DS.cells
    rw [b]
    simp only [e2]
    simp [scs]
  rw [c2]
  rw [c1] at x ⊢
  exact u.innE x
theorem Upd.wrE {E : List (Nat × O)} {h h' : Hm} {hs : Nat} {s : Stm} {w' : WS} (u : Upd h h' s.w.cells (E ++ w'.cells)) (x : Has h (s.cells hs)) (e : w'.a = s.w.a) : Upd h h' (s.cells hs) (E ++ ({ s with w := w' } : Stm).cells hs) := by
  have v := u.innE (A := [(s.ra, oS hs s)]) x
  have c : ({ s with w := w' } : Stm).cells hs = [(s.ra, oS hs s)] ++ (w'.cells ++ match s.rd with
    | some r => r.cells
    | none => []) := by
    unfold Stm.cells oS
    simp only [e]
    rfl
  rw [c]
  exact v
def dueF (k : Nat) (D : DS) : DS := match D.str[k]? with
  | some s => s.w.dues.foldl (sendF k) { D with str := D.str.set k { s with w := { s.w with fx := max s.w.fx s.w.to } } }
  | none => D
theorem c_snB (x : Has h D.cells) (f : Free h) (g : GOk D) {m : Nat} (b : Bnd D (m + 4)) {k : Nat} {s : Stm} (ms : D.str[k]? = some s) {l3 l4 : Option W} :
    ∃ h' l3' l4', evSs (T.cf (run T (d + 6))) snB [some (.ref D.a), some (.int k), some (.ref s.ra), l3, l4] h = .nx [some (.ref D.a), some (.int k), some (.ref s.ra), l3', l4'] h' ∧ Upd h h' D.cells (dueF k D).cells ∧ Bnd (dueF k D) m ∧ GOk (dueF k D) ∧ (dueF k D).a = D.a := by
  have x0 := x.desk
  have xs := x0.s s (List.mem_of_getElem? ms)
  have lk : k < D.str.length := (List.getElem?_eq_some_iff.mp ms).1
  have ok := g.w s (List.mem_of_getElem? ms)
  obtain ⟨h1, a, e1, u1⟩ := c_due (T := T) (d := d + 4) (Stm.wr xs) f ok.kn (by have := ok.ln; unfold line; omega) ok.p12
  let w1 : WS := { s.w with fx := max s.w.fx s.w.to }
  have v1 : Upd h h1 D.cells ((a, .lst (s.w.dues.map (dueW s.w))) :: ({ D with str := D.str.set k { s with w := w1 } } : DS).cells) := Upd.stmE (E := [(a, .lst (s.w.dues.map (dueW s.w)))]) ms (Upd.wrE (E := [(a, .lst (s.w.dues.map (dueW s.w)))]) (w' := w1) u1 xs rfl) x rfl
  have f1 := v1.free f
  let D1 : DS := { D with str := D.str.set k { s with w := w1 } }
  have g1 : GOk D1 := g.set ⟨ok.p12, ok.sg, ok.kn, ok.ln⟩
  have dl : s.w.dues.length ≤ 4 := by
    rw [WS.dues, List.length_range']
    unfold WS.to
    omega
  have dE : dueF k D = s.w.dues.foldl (sendF k) D1 := by
    unfold dueF
    rw [ms]
  let I : List Nat → List (Option W) → Hm → Prop := fun ys σ h' => ∃ l3 l4 D' s', σ = [some (.ref D.a), some (.int k), some (.ref s.ra), l3, l4] ∧ Upd h h' D.cells ((a, .lst (s.w.dues.map (dueW s.w))) :: D'.cells) ∧ (GOk D' ∧ Bnd D' (m + ys.length) ∧ D'.str[k]? = some s' ∧ s'.w = w1 ∧ s'.ra = s.ra ∧ D'.a = D.a ∧ ys.foldl (sendF k) D' = dueF k D ∧ ∀ n, n ∈ ys → n < 9409)
  have dm : ∀ n, n ∈ s.w.dues → n < 9409 := fun n q => by
    have := List.mem_range'_1.mp q
    have := ok.ln
    unfold WS.to at *
    omega
  have hI : I s.w.dues [some (.ref D.a), some (.int k), some (.ref s.ra), l3, l4] h1 := ⟨l3, l4, D1, { s with w := w1 }, rfl, v1, g1, ⟨by have := b.made; show D.p.made + _ ≤ _; omega, by have := b.rs; show D.p.rs.length + _ < _; omega, by have := b.os; show D.p.os.length + _ < _; omega⟩, by simp [D1, lk], rfl, rfl, rfl, dE.symm, dm⟩
  obtain ⟨σ', h', e, ⟨l3', l4', D', s', rfl, u, gD, bD, _, _, _, aD, eD, _⟩⟩ := forL_ex (gd := [(a, s.w.dues.map (dueW s.w))]) (k := dueW s.w) (f := fun x σ h => match store (.row [3, 4]) x σ h with
      | some σ => evSs (T.cf (run T (d + 6))) snI σ h
      | none => .st) I (fun ys σ h' i => by
        obtain ⟨y, z, D', s', rfl, u, _⟩ := i
        exact stays_one (u.has.2 _ List.mem_cons_self).2) (fun n ys σ h' i => by
        obtain ⟨y, z, D', s', rfl, u, gD, bD, mD, wD, rD, aD, eD, nD⟩ := i
        obtain ⟨h2, e2, u2, b2⟩ := c_snI (T := T) (d := d) (n := n) (m := m + ys.length) u.has.tail (u.free f) gD (by simpa [Nat.add_assoc] using bD) mD (nD n List.mem_cons_self)
        obtain ⟨g2, a2, s2, m2, w2, r2⟩ := sendF_at (n := n) gD mD
        have bd : s'.w.body n = s.w.body n := by rw [wD]; rfl
        rw [bd, aD, rD] at e2
        exact ⟨_, h2, e2, _, _, sendF k D' n, s2, rfl, u.trans (u2.cons u.has), g2, b2, m2, w2.trans wD, r2.trans rD, a2.trans aD, eD, fun n q => nD n (List.mem_cons_of_mem _ q)⟩) hI
  have eD : D' = dueF k D := eD
  rw [eD] at u gD bD aD
  refine ⟨h', l3', l4', ?_, u.tail, bD, gD, aD⟩
  have e' := e
  simp only [snB, Sms.of_cons, Sms.of_nil, evSs_cons, evSs_nil]
  rw [evS_for]
  simp [u_fldW, (Stm.row xs).1, (Stm.wr xs).writer.a, e1, toLock_ref, (v1.has.2 _ List.mem_cons_self).2, u_planR, u_planLR]
  exact congrArg (fun z : F => z.seq fun σ h => F.nx σ h) e'
theorem strW_set {l : List Stm} {k : Nat} {s s' : Stm} (m : l[k]? = some s) (e : s'.ra = s.ra) : strW' (l.set k s') = strW' l := by
  obtain ⟨i, j, e1, e2, _⟩ := set_split (s' := s') m
  rw [e2, e1]
  simp [strW', e]
theorem sendF_str {k n : Nat} : strW' (sendF k D n).str = strW' D.str ∧ (sendF k D n).sl = D.sl ∧ (sendF k D n).ak = D.ak := by
  unfold sendF
  cases ms : D.str[k]? with
  | none => exact ⟨rfl, rfl, rfl⟩
  | some s =>
    dsimp only
    by_cases q : s.nx ≤ n
    · rw [if_pos q]
      exact ⟨strW_set ms rfl, rfl, rfl⟩
    · rw [if_neg q]
      exact ⟨rfl, rfl, rfl⟩
theorem sendFs_str {k : Nat} : ∀ {ns : List Nat} {D : DS}, strW' (ns.foldl (sendF k) D).str = strW' D.str ∧ (ns.foldl (sendF k) D).sl = D.sl ∧ (ns.foldl (sendF k) D).ak = D.ak
  | [], _ => ⟨rfl, rfl, rfl⟩
  | n :: ns, D => by
    have a := sendFs_str (k := k) (ns := ns) (D := sendF k D n)
    have b := sendF_str (D := D) (k := k) (n := n)
    exact ⟨a.1.trans b.1, a.2.1.trans b.2.1, a.2.2.trans b.2.2⟩
theorem dueF_str {k : Nat} : strW' (dueF k D).str = strW' D.str ∧ (dueF k D).sl = D.sl ∧ (dueF k D).ak = D.ak := by
  unfold dueF
  cases ms : D.str[k]? with
  | none => exact ⟨rfl, rfl, rfl⟩
  | some s =>
    dsimp only
    have a := sendFs_str (k := k) (ns := s.w.dues) (D := { D with str := D.str.set k { s with w := { s.w with fx := max s.w.fx s.w.to } } })
    exact ⟨a.1.trans (strW_set ms rfl), a.2⟩
def newF (D : DS) : DS := (List.range D.str.length).foldl (fun D k => dueF k D) D
theorem enum_map : ∀ (l : List Stm) (j : Nat), enumL j (strW' l) = (l.zipIdx j).map fun p => W.tup [.int p.2, .ref p.1.ra]
  | [], _ => rfl
  | s :: l, j => by
    have ih := enum_map l (j + 1)
    rw [List.zipIdx_cons, List.map_cons, ← ih]
    rfl
theorem c_send_new (x : Has h D.cells) (f : Free h) (g : GOk D) {m : Nat} (b : Bnd D (m + 4 * D.str.length)) :
    ∃ h', run T (d + 7) 77 [.ref D.a] h = .ok .non h' ∧ Upd h h' D.cells (newF D).cells ∧ Bnd (newF D) m ∧ GOk (newF D) ∧ (newF D).a = D.a := by
  have x0 := x.desk
  let I : List (Stm × Nat) → List (Option W) → Hm → Prop := fun ys σ h' => ∃ l1 l2 l3 l4 D', σ = [some (.ref D.a), l1, l2, l3, l4] ∧ Upd h h' D.cells D'.cells ∧ (GOk D' ∧ Bnd D' (m + 4 * ys.length) ∧ D'.a = D.a ∧ strW' D'.str = strW' D.str ∧ D'.sl = D.sl ∧ D'.ak = D.ak ∧ (∀ p, p ∈ ys → (strW' D.str)[p.2]? = some (.ref p.1.ra)) ∧ (ys.map (·.2)).foldl (fun D k => dueF k D) D' = newF D)
  have hI : I D.str.zipIdx [some (.ref D.a), none, none, none, none] h := ⟨none, none, none, none, D, rfl, Upd.refl x, g, by simpa using b, rfl, rfl, rfl, rfl, fun p q => by
    have := List.mem_zipIdx_iff_getElem?.mp q
    simp [strW', this], by
    rw [show (D.str.zipIdx.map (·.2)) = List.range D.str.length by rw [List.range_eq_range', ← List.zipIdx_map_snd 0]]
    rfl⟩
  obtain ⟨σ', h', e, ⟨l1, l2, l3, l4, D', rfl, u, gD, bD, aD, sD, slD, akD, _, eD⟩⟩ := forL_ex (gd := [(D.sl, strW' D.str)]) (k := fun p : Stm × Nat => W.tup [.int p.2, .ref p.1.ra]) (f := fun x σ h => match store (.row [1, 2]) x σ h with
      | some σ => evSs (T.cf (run T (d + 6))) snB σ h
      | none => .st) I (fun ys σ h' i => by
        obtain ⟨l1, l2, l3, l4, D', rfl, u, gD, bD, aD, sD, slD, _⟩ := i
        have := u.has.desk.sl
        rw [sD, slD] at this
        exact stays_one this) (fun p ys σ h' i => by
        obtain ⟨l1, l2, l3, l4, D', rfl, u, gD, bD, aD, sD, slD, akD, pD, eD⟩ := i
        have z := pD p List.mem_cons_self
        rw [← sD] at z
        obtain ⟨s, ms, rs⟩ : ∃ s, D'.str[p.2]? = some s ∧ s.ra = p.1.ra := by
          simp [strW'] at z
          obtain ⟨s, q1, q2⟩ := z
          exact ⟨s, q1, q2⟩
        obtain ⟨h2, l3', l4', e2, u2, b2, g2, a2⟩ := c_snB (T := T) (d := d) (m := m + 4 * ys.length) (l3 := l3) (l4 := l4) u.has (u.free f) gD (bD.le (by simp; omega)) ms
        rw [aD, rs] at e2
        have q := dueF_str (D := D') (k := p.2)
        exact ⟨_, h2, e2, _, _, _, _, dueF p.2 D', rfl, u.trans u2, g2, b2, a2.trans aD, q.1.trans sD, q.2.1.trans slD, q.2.2.trans akD, fun p m => pD p (List.mem_cons_of_mem _ m), eD⟩) hI
  have eD : D' = newF D := eD
  have xa := u.has.desk.a
  have xk := u.has.desk.ak
  rw [aD] at xa
  rw [akD] at xa xk
  rw [eD] at u gD bD aD
  refine ⟨h', ?_, u, by simpa using bD, gD, aD⟩
  rw [run_fn (Lib1.f77 (T := T)) rfl rfl]
  have eO : evS (T.cf (run T (d + 6))) snO [some (.ref D.a), none, none, none, none] h = .nx [some (.ref D.a), l1, l2, l3, l4] h' := by
    rw [snO, evS_for]
    simp [u_fldW, x0.a, u_planLR, x0.sl, enum_map]
    exact e
  simp [P.F_Desk_send_new, send_new_body, startW, eO]
  rw [evS_for]
  simp [u_fldW, xa, u_planLR, xk, enumL, forL, u_stays]
end
end Mn
end
section
set_option Elab.async false
set_option linter.all false
set_option maxRecDepth 100000
set_option maxHeartbeats 4000000
namespace Mn
open PySem L2
structure Msg where
  id : Nat
  k : Nat
  hd : Bool
  n : Nat
  body : List Nat
def msgW (hs : Nat) (m : Msg) : W := if m.hd = true then lett m.id hs (Str.ofString "had") (0 :: dg2 m.k) (dg3 m.n) else lett m.id hs (Str.ofString "part") (dg2 m.k ++ dg2 m.n) m.body
abbrev Core := Bool × Nat × List Nat
def Msg.core (m : Msg) : Core := (m.hd, m.n, m.body)
def hads (a b : Nat) : List Core := (List.range' (a + 1) (b - a)).map fun n => (true, n, [])
def prts (w : WS) (a b : Nat) : List Core := (List.range' a (b - a)).map fun n => (false, n, w.body n)
def fil (k : Nat) (ms : List Msg) : List Core := (ms.filter fun m => decide (m.k = k)).map Msg.core
theorem fil_cons {k : Nat} {m : Msg} {ms : List Msg} : fil k (m :: ms) = if m.k = k then m.core :: fil k ms else fil k ms := by
  unfold fil
  by_cases q : m.k = k
  · simp [q]
  · simp [q]
theorem fil_snoc {k : Nat} {m : Msg} {ms : List Msg} : fil k (ms ++ [m]) = if m.k = k then fil k ms ++ [m.core] else fil k ms := by
  unfold fil
  by_cases q : m.k = k
  · simp [q]
  · simp [q]
theorem hads_self {a b : Nat} (q : b ≤ a) : hads a b = [] := by
  unfold hads
  rw [show b - a = 0 by omega]
  rfl
theorem hads_cons {a b : Nat} (q : a < b) : hads a b = (true, a + 1, []) :: hads (a + 1) b := by
  unfold hads
  rw [show b - a = (b - (a + 1)) + 1 by omega, List.range'_succ]
  rfl
theorem hads_snoc {a b : Nat} (q : a ≤ b) : hads a (b + 1) = hads a b ++ [(true, b + 1, [])] := by
  unfold hads
  rw [show b + 1 - a = (b - a) + 1 by omega, List.range'_concat, List.map_append]
  simp
  omega
theorem prts_self {w : WS} {a b : Nat} (q : b ≤ a) : prts w a b = [] := by
  unfold prts
  rw [show b - a = 0 by omega]
  rfl
theorem prts_cons {w : WS} {a b : Nat} (q : a < b) : prts w a b = (false, a, w.body a) :: prts w (a + 1) b := by
  unfold prts
  rw [show b - a = (b - (a + 1)) + 1 by omega, List.range'_succ]
  rfl
theorem prts_snoc {w : WS} {a b : Nat} (q : a ≤ b) : prts w a (b + 1) = prts w a b ++ [(false, b, w.body b)] := by
  unfold prts
  have e : a + (b - a) = b := by omega
  rw [show b + 1 - a = (b - a) + 1 by omega, List.range'_concat, List.map_append]
  simp [e]
structure SB (s : Stm) : Prop where
  wok : WOk s.w
  c1 : s.w.kn ≤ s.cnt
  c2 : s.cnt ≤ s.nx
  c3 : s.nx ≤ s.w.fx
  c4 : s.w.fx ≤ s.w.ps.length
  ss : s.ss = (s.w.pp.take s.cnt).flatten
  rc : s.rcl = decide (0 < s.cnt ∧ s.w.cl = true ∧ s.cnt = s.w.ps.length)
  rd : s.rd.isSome = decide (0 < s.cnt)
structure Com (D : DS) : Prop where
  n : D.str.length ≤ 200
  hs : D.p.hs < 32
  gr : D.p.gr = false
  sb : ∀ k s, D.str[k]? = some s → SB s ∧ D.rds.lookup k = s.rd.map RdS.row
  keys : ∀ k, k ∈ D.rds.map (·.1) → k < D.str.length
  nd : (D.rds.map (·.1)).Nodup
  made : D.p.made = (D.str.map fun s => s.nx + s.cnt).sum
  tot : (D.str.map fun s => s.w.ps.length).sum ≤ 20000
  rs : D.p.rs.length ≤ D.p.made
  fs : D.fs.length ≤ D.p.made
  ts : D.ts.length ≤ D.p.made
  os : D.p.os.length ≤ D.p.made
  rl : D.rds.length ≤ D.p.made
theorem sum_le {ι : Type} {f g : ι → Nat} : ∀ {l : List ι}, (∀ x, x ∈ l → f x ≤ g x) → (l.map f).sum ≤ (l.map g).sum
  | [], _ => Nat.le_refl _
  | x :: l, q => by
    have a := sum_le (l := l) fun y m => q y (List.mem_cons_of_mem _ m)
    have b := q x List.mem_cons_self
    simp only [List.map_cons, List.sum_cons]
    omega
theorem sum_two {ι : Type} {f : ι → Nat} : ∀ {l : List ι}, (l.map fun x => 2 * f x).sum = 2 * (l.map f).sum
  | [] => rfl
  | x :: l => by
    have a := sum_two (f := f) (l := l)
    simp only [List.map_cons, List.sum_cons]
    omega
theorem Com.small {D : DS} (c : Com D) : D.p.made ≤ 40000 := by
  rw [c.made]
  have a := sum_le (l := D.str) (f := fun s => s.nx + s.cnt) (g := fun s => 2 * s.w.ps.length) fun s m => by
    obtain ⟨k, hk⟩ := List.getElem?_of_mem m
    have := (c.sb k s hk).1
    have := this.c2
    have := (c.sb k s hk).1.c3
    have := (c.sb k s hk).1.c4
    omega
  rw [sum_two] at a
  have := c.tot
  omega
theorem Com.gok {D : DS} (c : Com D) : GOk D := ⟨fun s m => by
  obtain ⟨k, hk⟩ := List.getElem?_of_mem m
  exact (c.sb k s hk).1.wok, c.n, c.hs⟩
theorem sum_set {ι : Type} {f : ι → Nat} {l : List ι} {k : Nat} {s s' : ι} (m : l[k]? = some s) : ((l.set k s').map f).sum + f s = (l.map f).sum + f s' := by
  obtain ⟨i, j, e1, e2, _⟩ := set_split (s' := s') m
  rw [e2, e1]
  simp
  omega
theorem map_set {ι κ : Type} {f : ι → κ} {l : List ι} {k : Nat} {s s' : ι} (m : l[k]? = some s) (e : f s' = f s) : (l.set k s').map f = l.map f := by
  obtain ⟨i, j, e1, e2, _⟩ := set_split (s' := s') m
  rw [e2, e1]
  simp [e]
theorem get_set {ι : Type} {l : List ι} {k j : Nat} {s s' t : ι} (m : l[k]? = some s) (e : (l.set k s')[j]? = some t) : (j = k ∧ t = s') ∨ (j ≠ k ∧ l[j]? = some t) := by
  have lk : k < l.length := (List.getElem?_eq_some_iff.mp m).1
  by_cases q : j = k
  · subst q
    simp [lk] at e
    exact .inl ⟨rfl, e.symm⟩
  · rw [List.getElem?_set_ne (fun z => q z.symm)] at e
    exact .inr ⟨q, e⟩
structure PhA (D : DS) (rem nw : List Msg) (r0 : Nat → Nat) : Prop where
  com : Com D
  os : D.p.os = nw.map (msgW D.p.hs)
  r : ∀ k s, D.str[k]? = some s → s.w.kn ≤ r0 k ∧ r0 k ≤ s.cnt ∧ fil k rem = hads s.w.kn (r0 k) ++ prts s.w s.cnt s.nx ∧ fil k nw = hads (r0 k) s.cnt
  kr : ∀ m, m ∈ rem → m.k < D.str.length
  kn : ∀ m, m ∈ nw → m.k < D.str.length
def keyA (s : Stm) : Nat × List (List Nat) × Bool × Nat × Nat := (s.ra, s.w.pp, s.w.cl, s.w.fx, s.nx)
section
variable {T : Tx} [Lib1 T] {d : Nat} {h : Hm} {D : DS}
theorem stepA_had {m : Msg} {rem nw : List Msg} {r0 : Nat → Nat} (x : Has h D.cells) (f : Free h) (p : PhA D (m :: rem) nw r0) (hm : m.hd = true) :
    ∃ h' D', run T (d + 9) 75 [.ref D.a, msgW D.p.hs m] h = .ok .non h' ∧ Upd h h' D.cells D'.cells ∧ PhA D' rem nw r0 ∧ D'.a = D.a ∧ D'.p = D.p ∧ D'.str.map keyA = D.str.map keyA := by
  have lk := p.kr m List.mem_cons_self
  obtain ⟨s, ms⟩ : ∃ s, D.str[m.k]? = some s := ⟨_, List.getElem?_eq_getElem lk⟩
  obtain ⟨sb, el⟩ := p.com.sb _ _ ms
  obtain ⟨r1, r2, r3, r4⟩ := p.r _ _ ms
  rw [fil_cons, if_pos rfl] at r3
  have q : s.w.kn < r0 m.k := by
    by_cases q : s.w.kn < r0 m.k
    · exact q
    · rw [hads_self (by omega), List.nil_append] at r3
      by_cases q2 : s.cnt < s.nx
      · rw [prts_cons q2] at r3
        have := (List.cons.inj r3).1
        simp [Msg.core, hm] at this
      · rw [prts_self (by omega)] at r3
        cases r3
  rw [hads_cons q, List.cons_append] at r3
  obtain ⟨e1, e2⟩ := List.cons.inj r3
  have en : m.n = s.w.kn + 1 := by
    simp [Msg.core] at e1
    exact e1.2.1
  have c1 := sb.c1
  have c2 := sb.c2
  have c3 := sb.c3
  have c4 := sb.c4
  have cl := sb.wok.ln
  obtain ⟨h', e, u⟩ := c_had_came (T := T) (d := d + 4) x f (c := m.n) (id := m.id) (kind := Str.ofString "had") ms (by have := p.com.n; omega) (by omega)
  have ek : max s.w.kn (min m.n s.w.ps.length) = s.w.kn + 1 := by omega
  refine ⟨h', D.known m.k m.n s, ?_, u, ?_, rfl, rfl, map_set ms rfl⟩
  · rw [msgW, if_pos hm]
    exact c_here_had x.desk e
  · have ec : ({ s with w := { s.w with kn := max s.w.kn (min m.n s.w.ps.length) } } : Stm).cnt = s.cnt := rfl
    refine ⟨⟨by simpa [DS.known] using p.com.n, p.com.hs, p.com.gr, fun j t mt => ?_, fun j q => by simpa [DS.known] using p.com.keys j q, p.com.nd, ?_, ?_, p.com.rs, p.com.fs, p.com.ts, p.com.os, p.com.rl⟩, p.os, fun j t mt => ?_, fun n q => by simpa [DS.known] using p.kr n (List.mem_cons_of_mem _ q), fun n q => by simpa [DS.known] using p.kn n q⟩
    · rcases get_set ms mt with ⟨rfl, rfl⟩ | ⟨_, mt⟩
      · refine ⟨⟨⟨sb.wok.p12, sb.wok.sg, ?_, sb.wok.ln⟩, ?_, sb.c2, sb.c3, sb.c4, sb.ss, sb.rc, sb.rd⟩, el⟩
        · show max s.w.kn (min m.n s.w.ps.length) ≤ s.w.ps.length
          omega
        · show max s.w.kn (min m.n s.w.ps.length) ≤ s.cnt
          omega
      · exact p.com.sb _ _ mt
    · have := map_set (f := fun s : Stm => s.nx + s.cnt) (s' := { s with w := { s.w with kn := max s.w.kn (min m.n s.w.ps.length) } }) ms rfl
      show _ = ((D.str.set _ _).map _).sum
      rw [this]
      exact p.com.made
    · have := map_set (f := fun s : Stm => s.w.ps.length) (s' := { s with w := { s.w with kn := max s.w.kn (min m.n s.w.ps.length) } }) ms rfl
      show ((D.str.set _ _).map _).sum ≤ _
      rw [this]
      exact p.com.tot
    · rcases get_set ms mt with ⟨rfl, rfl⟩ | ⟨nj, mt⟩
      · refine ⟨?_, r2, ?_, r4⟩
        · show max s.w.kn (min m.n s.w.ps.length) ≤ _
          omega
        · show fil m.k rem = hads (max s.w.kn (min m.n s.w.ps.length)) _ ++ _
          rw [ek]
          exact e2
      · have := p.r _ _ mt
        rw [fil_cons, if_neg (fun z => nj z.symm)] at this
        exact this
theorem take_snoc {l : List (List Nat)} {n : Nat} (q : n < l.length) : (l.take (n + 1)).flatten = (l.take n).flatten ++ l.getD n [] := by
  rw [List.take_succ, List.flatten_append]
  simp [q]
theorem len_flat : ∀ {l : List (List Nat)}, (∀ p, p ∈ l → p.length ≤ 12) → l.flatten.length ≤ 12 * l.length
  | [], _ => Nat.le_refl _
  | p :: l, q => by
    have a := len_flat (l := l) fun y m => q y (List.mem_cons_of_mem _ m)
    have b := q p List.mem_cons_self
    simp only [List.flatten_cons, List.length_append, List.length_cons]
    omega
theorem stepA_part {m : Msg} {rem nw : List Msg} {r0 : Nat → Nat} (x : Has h D.cells) (f : Free h) (p : PhA D (m :: rem) nw r0) (hm : m.hd = false) :
    ∃ h' D' m', run T (d + 9) 75 [.ref D.a, msgW D.p.hs m] h = .ok .non h' ∧ Upd h h' D.cells D'.cells ∧ PhA D' rem (nw ++ [m']) r0 ∧ D'.a = D.a ∧ D'.p.hs = D.p.hs ∧ D'.p.a = D.p.a ∧ D'.str.map keyA = D.str.map keyA := by
  have lk := p.kr m List.mem_cons_self
  obtain ⟨s, ms⟩ : ∃ s, D.str[m.k]? = some s := ⟨_, List.getElem?_eq_getElem lk⟩
  obtain ⟨sb, el⟩ := p.com.sb _ _ ms
  obtain ⟨r1, r2, r3, r4⟩ := p.r _ _ ms
  rw [fil_cons, if_pos rfl] at r3
  have q : r0 m.k ≤ s.w.kn := by
    by_cases q : s.w.kn < r0 m.k
    · rw [hads_cons q, List.cons_append] at r3
      have := (List.cons.inj r3).1
      simp [Msg.core, hm] at this
    · omega
  rw [hads_self q, List.nil_append] at r3
  have q2 : s.cnt < s.nx := by
    by_cases q2 : s.cnt < s.nx
    · exact q2
    · rw [prts_self (by omega)] at r3
      cases r3
  rw [prts_cons q2] at r3
  obtain ⟨e1, e2⟩ := List.cons.inj r3
  obtain ⟨en, eb⟩ : m.n = s.cnt ∧ m.body = s.w.body s.cnt := by
    simp [Msg.core] at e1
    exact e1.2
  have c1 := sb.c1
  have c2 := sb.c2
  have c3 := sb.c3
  have c4 := sb.c4
  have cl := sb.wok.ln
  have sm := p.com.small
  have cn := p.com.n
  have lnn : line = 16777216 := rfl
  have ppl : s.w.pp.length = s.w.ps.length := by simp [WS.pp]
  have g12 : (s.w.pp.getD s.cnt []).length ≤ 12 := by
    rw [List.getD_eq_getElem?_getD, List.getElem?_eq_getElem (by omega)]
    exact sb.wok.p12 _ (List.getElem_mem _)
  have ssl : s.ss.length ≤ 12 * 9000 := by
    rw [sb.ss]
    have a := len_flat (l := s.w.pp.take s.cnt) fun y my => sb.wok.p12 y (List.mem_of_mem_take my)
    rw [List.length_take] at a
    omega
  obtain ⟨h', r, rds', fs', w', e, u, l1, l2, l3, l4, rc, rs, rcl⟩ := c_part_came (T := T) (d := d + 1) x f ms el rfl (by omega) (by omega) (by omega) p.com.hs (by have := p.com.rs; omega) (by have := p.com.os; omega) (by have := p.com.rl; omega) (by have := p.com.fs; omega) (by have := p.com.ts; omega) (b := if s.w.cl = true ∧ s.cnt + 1 = s.w.ps.length then 1 else 0) (id := m.id) (l := s.w.pp.getD s.cnt []) (kind := Str.ofString "part") (by omega) (by omega)
  let D0 : DS := { D with rds := rds', fs := fs', ts := D.ts ++ [w'], str := D.str.set m.k { s with rd := some r } }
  refine ⟨h', D0.had m.k (s.cnt + 1), ⟨D.p.made, m.k, true, s.cnt + 1, []⟩, ?_, u, ?_, rfl, rfl, rfl, map_set ms rfl⟩
  · rw [msgW, if_neg (by simp [hm]), en, eb]
    exact c_here_part x.desk e
  · have s2c : ({ s with rd := some r } : Stm).cnt = s.cnt + 1 := rc
    refine ⟨⟨by simpa [D0, DS.had] using p.com.n, p.com.hs, p.com.gr, fun j t mt => ?_, fun j q => ?_, ?_, ?_, ?_, ?_, ?_, ?_, ?_, ?_⟩, ?_, fun j t mt => ?_, fun n q => by simpa [D0, DS.had] using p.kr n (List.mem_cons_of_mem _ q), fun n q => ?_⟩
    · rcases get_set ms mt with ⟨rfl, rfl⟩ | ⟨nj, mt⟩
      · refine ⟨⟨sb.wok, ?_, ?_, sb.c3, sb.c4, ?_, ?_, ?_⟩, l1⟩
        · rw [s2c]
          show s.w.kn ≤ _
          omega
        · rw [s2c]
          show _ ≤ s.nx
          omega
        · rw [s2c]
          show r.ss = (s.w.pp.take (s.cnt + 1)).flatten
          rw [rs, take_snoc (by omega), sb.ss]
        · rw [s2c]
          show r.cl = _
          rw [rcl]
          congr 1
          apply propext
          show (if s.w.cl = true ∧ s.cnt + 1 = s.w.ps.length then 1 else 0) = 1 ↔ 0 < s.cnt + 1 ∧ s.w.cl = true ∧ s.cnt + 1 = s.w.ps.length
          by_cases z : s.w.cl = true ∧ s.cnt + 1 = s.w.ps.length
          · rw [if_pos z]
            exact ⟨fun _ => ⟨by omega, z⟩, fun _ => rfl⟩
          · rw [if_neg z]
            exact ⟨fun q => by omega, fun q => absurd q.2 z⟩
        · rw [s2c]
          simp
      · have := p.com.sb _ _ mt
        exact ⟨this.1, (l2 j nj).trans this.2⟩
    · have : j ∈ rds'.map (·.1) := q
      rw [l3] at this
      show j < (D.str.set _ _).length
      rw [List.length_set]
      split at this
      · exact p.com.keys j this
      · rcases List.mem_append.mp this with z | z
        · exact p.com.keys j z
        · simp at z
          omega
    · show (rds'.map (·.1)).Nodup
      rw [l3]
      split
      · exact p.com.nd
      · next z =>
        refine nodup_app p.com.nd (by simp) fun y my mz => ?_
        simp at mz
        subst mz
        have z : s.rd = none := by simpa using z
        rw [z] at el
        have := List.lookup_eq_none_iff.mp el
        obtain ⟨w, mw, ew⟩ := List.mem_map.mp my
        have := this w mw
        simp [ew] at this
    · show D.p.made + 1 = ((D.str.set m.k { s with rd := some r }).map fun s => s.nx + s.cnt).sum
      have : ((D.str.set m.k { s with rd := some r }).map fun s => s.nx + s.cnt).sum + (s.nx + s.cnt) = (D.str.map fun s => s.nx + s.cnt).sum + (s.nx + (s.cnt + 1)) := by
        rw [← s2c]
        exact sum_set (f := fun s : Stm => s.nx + s.cnt) (s' := { s with rd := some r }) ms
      have e3 := p.com.made
      omega
    · show ((D.str.set m.k { s with rd := some r }).map fun s => s.w.ps.length).sum ≤ _
      rw [map_set (f := fun s : Stm => s.w.ps.length) (s' := { s with rd := some r }) ms rfl]
      exact p.com.tot
    · show (D.p.rs ++ [_]).length ≤ D.p.made + 1
      have := p.com.rs
      simp
      omega
    · show fs'.length ≤ D.p.made + 1
      have := p.com.fs
      omega
    · show (D.ts ++ [w']).length ≤ D.p.made + 1
      have := p.com.ts
      simp
      omega
    · show (D.p.os ++ [_]).length ≤ D.p.made + 1
      have := p.com.os
      simp
      omega
    · show rds'.length ≤ D.p.made + 1
      have z := congrArg List.length l3
      have := p.com.rl
      by_cases y : s.rd.isSome = true
      · rw [if_pos y] at z
        simp only [List.length_map] at z
        omega
      · rw [if_neg y] at z
        simp only [List.length_map, List.length_append, List.length_cons, List.length_nil] at z
        omega
    · show D.p.os ++ [lett D.p.made D.p.hs (Str.ofString "had") (0 :: dg2 m.k) (dg3 (s.cnt + 1))] = _
      rw [List.map_append, p.os]
      rfl
    · rcases get_set ms mt with ⟨rfl, rfl⟩ | ⟨nj, mt⟩
      · rw [s2c]
        refine ⟨r1, by omega, ?_, ?_⟩
        · rw [e2, hads_self (show r0 m.k ≤ s.w.kn from q)]
          rfl
        · rw [fil_snoc, if_pos rfl, r4, hads_snoc r2]
          rfl
      · have := p.r _ _ mt
        rw [fil_cons, if_neg (fun z => nj z.symm)] at this
        rw [fil_snoc, if_neg (fun z => nj z.symm)]
        exact this
    · show n.k < (D.str.set _ _).length
      rw [List.length_set]
      rcases List.mem_append.mp q with q | q
      · exact p.kn n q
      · simp at q
        subst q
        exact lk
end
end Mn
end
section
set_option Elab.async false
set_option linter.all false
set_option maxRecDepth 100000
set_option maxHeartbeats 4000000
namespace Mn
open PySem L2
structure InvC (D : DS) (ms : List Msg) : Prop where
  com : Com D
  os : D.p.os = ms.map (msgW D.p.hs)
  r : ∀ k s, D.str[k]? = some s → fil k ms = hads s.w.kn s.cnt ++ prts s.w s.cnt s.nx
  km : ∀ m, m ∈ ms → m.k < D.str.length
structure InvB (D : DS) (ms : List Msg) : Prop extends InvC D ms where
  fx : ∀ (k : Nat) (s : Stm), D.str[k]? = some s → s.nx = s.w.fx
structure Same (D D' : DS) : Prop where
  a : D'.a = D.a
  pa : D'.p.a = D.p.a
  hs : D'.p.hs = D.p.hs
theorem Same.refl {D : DS} : Same D D := ⟨rfl, rfl, rfl⟩
theorem Same.trans {D D' D'' : DS} (x : Same D D') (y : Same D' D'') : Same D D'' := ⟨y.a.trans x.a, y.pa.trans x.pa, y.hs.trans x.hs⟩
theorem sendF_inv {D : DS} {ms : List Msg} (v : InvC D ms) {k n : Nat} {s : Stm} (m : D.str[k]? = some s) (q : n ≤ s.nx) (q2 : n < s.w.fx) :
    ∃ ms', InvC (sendF k D n) ms' ∧ Same D (sendF k D n) ∧ (sendF k D n).str = D.str.set k { s with nx := max s.nx (n + 1) } := by
  have lk : k < D.str.length := (List.getElem?_eq_some_iff.mp m).1
  obtain ⟨sb, el⟩ := v.com.sb _ _ m
  unfold sendF
  rw [m]
  dsimp only
  by_cases z : s.nx ≤ n
  · rw [if_pos z]
    have en : s.nx = n := by omega
    have c2 := sb.c2
    have em : max s.nx (n + 1) = n + 1 := by omega
    refine ⟨ms ++ [⟨D.p.made, k, false, n, s.w.body n⟩], ⟨⟨by simpa [DS.part] using v.com.n, v.com.hs, v.com.gr, fun j t mt => ?_, fun j y => by simpa [DS.part] using v.com.keys j y, v.com.nd, ?_, ?_, ?_, ?_, ?_, ?_, ?_⟩, ?_, fun j t mt => ?_, fun y my => ?_⟩, ⟨rfl, rfl, rfl⟩, rfl⟩
    · rcases get_set m mt with ⟨rfl, rfl⟩ | ⟨nj, mt⟩
      · refine ⟨⟨sb.wok, sb.c1, ?_, ?_, sb.c4, sb.ss, sb.rc, sb.rd⟩, el⟩
        · show s.cnt ≤ max s.nx (n + 1)
          omega
        · show max s.nx (n + 1) ≤ s.w.fx
          omega
      · exact v.com.sb _ _ mt
    · show D.p.made + 1 = ((D.str.set k { s with nx := max s.nx (n + 1) }).map fun s => s.nx + s.cnt).sum
      have : ((D.str.set k { s with nx := max s.nx (n + 1) }).map fun s => s.nx + s.cnt).sum + (s.nx + s.cnt) = (D.str.map fun s => s.nx + s.cnt).sum + (max s.nx (n + 1) + s.cnt) := sum_set (f := fun s : Stm => s.nx + s.cnt) (s' := { s with nx := max s.nx (n + 1) }) m
      have e3 := v.com.made
      omega
    · show ((D.str.set k { s with nx := max s.nx (n + 1) }).map fun s => s.w.ps.length).sum ≤ _
      rw [map_set (f := fun s : Stm => s.w.ps.length) (s' := { s with nx := max s.nx (n + 1) }) m rfl]
      exact v.com.tot
    · show (D.p.rs ++ [_]).length ≤ D.p.made + 1
      have := v.com.rs
      simp
      omega
    · show D.fs.length ≤ D.p.made + 1
      have := v.com.fs
      omega
    · show D.ts.length ≤ D.p.made + 1
      have := v.com.ts
      omega
    · show (D.p.os ++ [_]).length ≤ D.p.made + 1
      have := v.com.os
      simp
      omega
    · show D.rds.length ≤ D.p.made + 1
      have := v.com.rl
      omega
    · show D.p.os ++ [lett D.p.made D.p.hs (Str.ofString "part") (dg2 k ++ dg2 n) (s.w.body n)] = _
      rw [List.map_append, v.os]
      rfl
    · rcases get_set m mt with ⟨rfl, rfl⟩ | ⟨nj, mt⟩
      · show _ = hads s.w.kn s.cnt ++ prts s.w s.cnt (max s.nx (n + 1))
        rw [em, prts_snoc (by omega), ← List.append_assoc, ← en, ← v.r _ _ m, fil_snoc, if_pos rfl]
        rfl
      · rw [fil_snoc, if_neg (fun y => nj y.symm)]
        exact v.r _ _ mt
    · show y.k < (D.str.set _ _).length
      rw [List.length_set]
      rcases List.mem_append.mp my with q | q
      · exact v.km y q
      · simp at q
        subst q
        exact lk
  · rw [if_neg z]
    have em : max s.nx (n + 1) = s.nx := by omega
    refine ⟨ms, v, Same.refl, ?_⟩
    rw [em]
    obtain ⟨i, j, e1, e2, _⟩ := set_split (s' := s) m
    exact e1.trans e2.symm
theorem sendFs_inv {k : Nat} : ∀ {c j : Nat} {D : DS} {ms : List Msg} {s : Stm}, InvC D ms → D.str[k]? = some s → j ≤ s.nx → j + c ≤ s.w.fx →
    ∃ ms', InvC ((List.range' j c).foldl (sendF k) D) ms' ∧ Same D ((List.range' j c).foldl (sendF k) D) ∧ ((List.range' j c).foldl (sendF k) D).str = D.str.set k { s with nx := max s.nx (j + c) }
  | 0, j, D, ms, s, v, m, q, q2 => by
    refine ⟨ms, v, Same.refl, ?_⟩
    have em : max s.nx (j + 0) = s.nx := by omega
    rw [em]
    obtain ⟨i, j, e1, e2, _⟩ := set_split (s' := s) m
    exact e1.trans e2.symm
  | c + 1, j, D, ms, s, v, m, q, q2 => by
    have lk : k < D.str.length := (List.getElem?_eq_some_iff.mp m).1
    obtain ⟨ms1, v1, s1, e1⟩ := sendF_inv v m (n := j) q (by omega)
    have m1 : (sendF k D j).str[k]? = some { s with nx := max s.nx (j + 1) } := by rw [e1]; simp [lk]
    obtain ⟨ms2, v2, s2, e2⟩ := sendFs_inv (c := c) (j := j + 1) v1 m1 (by show j + 1 ≤ max s.nx (j + 1); omega) (by show j + 1 + c ≤ s.w.fx; omega)
    rw [List.range'_succ, List.foldl_cons]
    refine ⟨ms2, v2, s1.trans s2, ?_⟩
    rw [e2, e1, List.set_set]
    have em : max (max s.nx (j + 1)) (j + 1 + c) = max s.nx (j + (c + 1)) := by omega
    show D.str.set k { s with nx := max (max s.nx (j + 1)) (j + 1 + c) } = _
    rw [em]
def duS (s : Stm) : Stm := { s with w := { s.w with fx := max s.w.fx s.w.to }, nx := max s.nx s.w.to }
theorem dueF_inv {D : DS} {ms : List Msg} (v : InvC D ms) {k : Nat} {s : Stm} (m : D.str[k]? = some s) :
    ∃ ms', InvC (dueF k D) ms' ∧ Same D (dueF k D) ∧ (dueF k D).str = D.str.set k (duS s) := by
  have lk : k < D.str.length := (List.getElem?_eq_some_iff.mp m).1
  obtain ⟨sb, el⟩ := v.com.sb _ _ m
  let s1 : Stm := { s with w := { s.w with fx := max s.w.fx s.w.to } }
  have c1 := sb.c1
  have c2 := sb.c2
  have c3 := sb.c3
  have c4 := sb.c4
  have tl : s.w.to ≤ s.w.ps.length := by unfold WS.to; omega
  have kt : s.w.kn ≤ s.w.to := by unfold WS.to; omega
  have v1 : InvC { D with str := D.str.set k s1 } ms := by
    refine ⟨⟨by simpa using v.com.n, v.com.hs, v.com.gr, fun j t mt => ?_, fun j y => by simpa using v.com.keys j y, v.com.nd, ?_, ?_, v.com.rs, v.com.fs, v.com.ts, v.com.os, v.com.rl⟩, v.os, fun j t mt => ?_, fun y my => by simpa using v.km y my⟩
    · rcases get_set m mt with ⟨rfl, rfl⟩ | ⟨nj, mt⟩
      · refine ⟨⟨⟨sb.wok.p12, sb.wok.sg, sb.wok.kn, sb.wok.ln⟩, sb.c1, sb.c2, ?_, ?_, sb.ss, sb.rc, sb.rd⟩, el⟩
        · show s.nx ≤ max s.w.fx s.w.to
          omega
        · show max s.w.fx s.w.to ≤ s.w.ps.length
          omega
      · exact v.com.sb _ _ mt
    · show _ = ((D.str.set k s1).map fun s => s.nx + s.cnt).sum
      rw [map_set (f := fun s : Stm => s.nx + s.cnt) (s' := s1) m rfl]
      exact v.com.made
    · show ((D.str.set k s1).map fun s => s.w.ps.length).sum ≤ _
      rw [map_set (f := fun s : Stm => s.w.ps.length) (s' := s1) m rfl]
      exact v.com.tot
    · rcases get_set m mt with ⟨rfl, rfl⟩ | ⟨nj, mt⟩
      · exact v.r _ s m
      · exact v.r _ _ mt
  have m1 : ({ D with str := D.str.set k s1 } : DS).str[k]? = some s1 := by simp [lk]
  obtain ⟨ms', v2, s2, e2⟩ := sendFs_inv (c := s.w.to - s.w.kn) (j := s.w.kn) v1 m1 (by show s.w.kn ≤ s.nx; omega) (by show s.w.kn + (s.w.to - s.w.kn) ≤ max s.w.fx s.w.to; omega)
  have eD : dueF k D = (List.range' s.w.kn (s.w.to - s.w.kn)).foldl (sendF k) { D with str := D.str.set k s1 } := by
    unfold dueF
    rw [m]
    rfl
  rw [eD]
  refine ⟨ms', v2, ⟨s2.a, s2.pa, s2.hs⟩, ?_⟩
  rw [e2]
  show (D.str.set k s1).set k _ = _
  rw [List.set_set]
  have em : s.w.kn + (s.w.to - s.w.kn) = s.w.to := by omega
  rw [em]
  rfl
theorem newFs_inv : ∀ {c j : Nat} {D : DS} {ms : List Msg}, InvC D ms → j + c = D.str.length →
    ∃ ms', InvC ((List.range' j c).foldl (fun D k => dueF k D) D) ms' ∧ Same D ((List.range' j c).foldl (fun D k => dueF k D) D) ∧ ((List.range' j c).foldl (fun D k => dueF k D) D).str = D.str.take j ++ (D.str.drop j).map duS
  | 0, j, D, ms, v, q => by
    refine ⟨ms, v, Same.refl, ?_⟩
    rw [List.drop_eq_nil_of_le (by omega), List.take_of_length_le (by omega)]
    simp
  | c + 1, j, D, ms, v, q => by
    have lj : j < D.str.length := by omega
    obtain ⟨s, m⟩ : ∃ s, D.str[j]? = some s := ⟨_, List.getElem?_eq_getElem lj⟩
    obtain ⟨ms1, v1, s1, e1⟩ := dueF_inv v m
    obtain ⟨ms2, v2, s2, e2⟩ := newFs_inv (c := c) (j := j + 1) v1 (by rw [e1, List.length_set]; omega)
    rw [List.range'_succ, List.foldl_cons]
    refine ⟨ms2, v2, s1.trans s2, ?_⟩
    rw [e2, e1]
    obtain ⟨a, b, f1, f2, f3⟩ := set_split (s' := duS s) m
    rw [f2, f1]
    subst f3
    have t1 : List.take (a.length + 1) a = a := List.take_of_length_le (by omega)
    have t2 : List.drop (a.length + 1) (List.map duS a) = [] := List.drop_eq_nil_of_le (by simp)
    simp [List.take_append, List.drop_append, t1, t2]
theorem newF_inv {D : DS} {ms : List Msg} (v : InvC D ms) : ∃ ms', InvC (newF D) ms' ∧ Same D (newF D) ∧ (newF D).str = D.str.map duS := by
  obtain ⟨ms', a, b, c⟩ := newFs_inv (c := D.str.length) (j := 0) v (by omega)
  refine ⟨ms', ?_, ?_, ?_⟩
  · rw [newF, List.range_eq_range']
    exact a
  · rw [newF, List.range_eq_range']
    exact b
  · rw [newF, List.range_eq_range', c]
    simp
section
variable {T : Tx} [Lib1 T] {d : Nat} {h : Hm} {D : DS}
def prog (s : Stm) : Nat × Nat × Nat := (s.w.kn, s.cnt, s.nx)
def keyT (s : Stm) : Nat × List (List Nat) × Bool := (s.ra, s.w.pp, s.w.cl)
theorem stepA {m : Msg} {rem nw : List Msg} {r0 : Nat → Nat} (x : Has h D.cells) (f : Free h) (p : PhA D (m :: rem) nw r0) :
    ∃ h' D' nw', run T (d + 9) 75 [.ref D.a, msgW D.p.hs m] h = .ok .non h' ∧ Upd h h' D.cells D'.cells ∧ PhA D' rem nw' r0 ∧ Same D D' ∧ D'.str.map keyA = D.str.map keyA := by
  cases hm : m.hd with
  | true =>
    obtain ⟨h', D', e, u, q, a, b, c⟩ := stepA_had (T := T) (d := d) x f p hm
    exact ⟨h', D', nw, e, u, q, ⟨a, by rw [b], by rw [b]⟩, c⟩
  | false =>
    obtain ⟨h', D', m', e, u, q, a, b, b2, c⟩ := stepA_part (T := T) (d := d) x f p hm
    exact ⟨h', D', _, e, u, q, ⟨a, b2, b⟩, c⟩
def woS (s : Stm) : Nat × Nat × Nat := (s.cnt, s.nx, max s.nx (min (s.cnt + 4) s.w.ps.length))
theorem map_get {ι κ : Type} {f : ι → κ} {l l' : List ι} (e : l'.map f = l.map f) {k : Nat} {s' : ι} (m : l'[k]? = some s') : ∃ s, l[k]? = some s ∧ f s' = f s := by
  have := congrArg (fun z => z[k]?) e
  simp only [List.getElem?_map, m] at this
  cases q : l[k]? with
  | none => rw [q] at this; cases this
  | some s =>
    rw [q] at this
    exact ⟨s, rfl, Option.some.inj this⟩
theorem map_ext {ι κ : Type} {f g : ι → κ} {l l' : List ι} (el : l'.length = l.length) (e : ∀ (k : Nat) (s s' : ι), l[k]? = some s → l'[k]? = some s' → g s' = f s) : l'.map g = l.map f := by
  apply List.ext_getElem?
  intro k
  rw [List.getElem?_map, List.getElem?_map]
  cases q : l[k]? with
  | none =>
    have : l'[k]? = none := by
      rw [List.getElem?_eq_none_iff] at q ⊢
      omega
    rw [this]
    rfl
  | some s =>
    have lk := (List.getElem?_eq_some_iff.mp q).1
    obtain ⟨s', q'⟩ : ∃ s', l'[k]? = some s' := ⟨_, List.getElem?_eq_getElem (by omega)⟩
    rw [q']
    exact congrArg some (e k s s' q q')
def wkB : Sms := .of [.expr (.meth (.loc 0) 145 (.of [.loc 2]))]
theorem c_work {ms : List Msg} (x : Has h D.cells) (f : Free h) (v : InvB D ms) :
    ∃ h' D' ms', run T (d + 10) 78 [.ref D.a] h = .ok .non h' ∧ Upd h h' D.cells D'.cells ∧ InvB D' ms' ∧ Same D D' ∧ D'.str.map keyT = D.str.map keyT ∧ D'.str.map prog = D.str.map woS := by
  have x0 := x.desk
  have xp := x0.p.post
  obtain ⟨h1, e1, u1⟩ := c_grew (T := T) (d := d + 8) x0.p f
  have gr := v.com.gr
  have pe : ({ D.p with gr := false } : PS) = D.p := by rw [← gr]
  rw [pe] at u1
  have v1 := Upd.post u1 x rfl rfl
  have v1 : Upd h h1 D.cells D.cells := v1
  have f1 := v1.free f
  have x1 := v1.has.desk
  obtain ⟨h2, b, e2, u2⟩ := c_came (T := T) (d := d + 8) x1.p f1
  let D1 : DS := { D with p := { D.p with out := b, os := [] } }
  have v2 : Upd h1 h2 D.cells ([(D.p.out, .lst D.p.os)] ++ D1.cells) := Upd.innE (A := D.base) (B := scs D.p.hs D.str) (cs := D.p.cells) (cs' := D1.p.cells) (u2.perm (List.Perm.refl _) List.perm_append_comm) v1.has
  have f2 := v2.free f1
  let r0 : Nat → Nat := fun k => match D.str[k]? with
    | some s => s.cnt
    | none => 0
  have p1 : PhA D1 ms [] r0 := by
    refine ⟨⟨v.com.n, v.com.hs, v.com.gr, v.com.sb, v.com.keys, v.com.nd, v.com.made, v.com.tot, v.com.rs, v.com.fs, v.com.ts, Nat.zero_le _, v.com.rl⟩, rfl, fun k s mk => ?_, v.km, fun m q => by cases q⟩
    have mk : D.str[k]? = some s := mk
    have e : r0 k = s.cnt := by
      show (match D.str[k]? with
        | some s => s.cnt
        | none => 0) = _
      rw [mk]
    have sb := (v.com.sb _ _ mk).1
    rw [e]
    exact ⟨sb.c1, Nat.le_refl _, v.r _ _ mk, by rw [hads_self (Nat.le_refl _)]; rfl⟩
  let I : List Msg → List (Option W) → Hm → Prop := fun ys σ h' => ∃ w D' nw, σ = [some (.ref D.a), some (.bl false), w] ∧ Upd h2 h' ((D.p.out, .lst D.p.os) :: D1.cells) ((D.p.out, .lst D.p.os) :: D'.cells) ∧ (PhA D' ys nw r0 ∧ Same D1 D' ∧ D'.str.map keyA = D1.str.map keyA)
  have hI : I ms [some (.ref D.a), some (.bl false), none] h2 := ⟨none, D1, [], rfl, Upd.refl v2.has, p1, Same.refl, rfl⟩
  obtain ⟨σ', h3, e3, ⟨w, D2, nw, rfl, u3, p3, s3, k3⟩⟩ := forL_ex (gd := [(D.p.out, D.p.os)]) (k := msgW D.p.hs) (f := fun x σ h => evSs (T.cf (run T (d + 9))) wkB (σ.set 2 (some x)) h) I (fun ys σ h' i => by
        obtain ⟨w, D', nw, rfl, u, _⟩ := i
        exact stays_one (u.has.2 _ List.mem_cons_self).2) (fun m ys σ h' i => by
        obtain ⟨w, D', nw, rfl, u, p', s', k'⟩ := i
        obtain ⟨h4, D4, nw4, e4, u4, p4, s4, k4⟩ := stepA (T := T) (d := d) u.has.tail (u.free f2) p'
        rw [s'.a, s'.hs] at e4
        have e4 : run T (d + 9) 75 [.ref D.a, msgW D.p.hs m] h' = .ok .non h4 := e4
        have xa := u.has.tail.desk.a
        rw [s'.a] at xa
        refine ⟨_, h4, ?_, some (msgW D.p.hs m), D4, nw4, rfl, u.trans (u4.cons u.has), p4, s'.trans s4, k4.trans k'⟩
        have xa : h'.g D.a = _ := xa
        simp [wkB, xa, e4]) hI
  have f3 := u3.free f2
  have x3 := u3.has.tail.desk
  -- nothing is left
  have st : ∀ (k : Nat) (s : Stm), D2.str[k]? = some s → s.w.kn = r0 k ∧ s.cnt = s.nx ∧ fil k nw = hads (r0 k) s.cnt := fun k s mk => by
    obtain ⟨a1, a2, a3, a4⟩ := p3.r k s mk
    have sb := (p3.com.sb _ _ mk).1
    have c2 := sb.c2
    have a3 : [] = hads s.w.kn (r0 k) ++ prts s.w s.cnt s.nx := a3
    refine ⟨?_, ?_, a4⟩
    · by_cases q : s.w.kn < r0 k
      · rw [hads_cons q] at a3
        cases a3
      · omega
    · by_cases q : s.cnt < s.nx
      · rw [prts_cons q] at a3
        have := congrArg List.length a3
        simp at this
      · omega
  have vC : InvC D2 nw := ⟨p3.com, p3.os, fun k s mk => by
    obtain ⟨a1, a2, a3⟩ := st k s mk
    rw [a3, a1, prts_self (by omega), List.append_nil], p3.kn⟩
  have sm := p3.com.small
  have sn := p3.com.n
  have lnn : line = 16777216 := rfl
  obtain ⟨h5, e5, u5, _, _, _⟩ := c_send_new (T := T) (d := d + 2) (m := 0) u3.has.tail f3 p3.com.gok ⟨by omega, by have := p3.com.rs; omega, by have := p3.com.os; omega⟩
  obtain ⟨ms5, v5, s5, e6⟩ := newF_inv vC
  have k3 : D2.str.map keyA = D.str.map keyA := k3
  have len2 : D2.str.length = D.str.length := by simpa using congrArg List.length k3
  have len5 : (newF D2).str.length = D.str.length := by rw [e6]; simpa using len2
  -- how each stream is behind it
  have each : ∀ (k : Nat) (s s' : Stm), D.str[k]? = some s → (newF D2).str[k]? = some s' → keyT s' = keyT s ∧ prog s' = woS s ∧ s'.nx = s'.w.fx := fun k s s' mk mk' => by
    rw [e6, List.getElem?_map] at mk'
    cases q : D2.str[k]? with
    | none => rw [q] at mk'; cases mk'
    | some t =>
      rw [q] at mk'
      have et : duS t = s' := Option.some.inj mk'
      subst et
      obtain ⟨t0, m0, ke⟩ := map_get k3 q
      rw [mk] at m0
      have := Option.some.inj m0
      subst this
      simp only [keyA, Prod.mk.injEq] at ke
      obtain ⟨k1, k2, k4, k5, k6⟩ := ke
      obtain ⟨a1, a2, a3⟩ := st k t q
      have er : r0 k = s.cnt := by
        show (match D.str[k]? with
          | some s => s.cnt
          | none => 0) = _
        rw [mk]
      have fx := v.fx _ _ mk
      have pl : t.w.ps.length = s.w.ps.length := by
        have := congrArg List.length k2
        simpa [WS.pp] using this
      have to : t.w.to = min (s.cnt + 4) s.w.ps.length := by
        unfold WS.to
        rw [a1, er, pl]
      refine ⟨?_, ?_, ?_⟩
      · show (t.ra, t.w.pp, t.w.cl) = _
        rw [k1, k2, k4]
        rfl
      · show (t.w.kn, t.cnt, max t.nx t.w.to) = (s.cnt, s.nx, max s.nx (min (s.cnt + 4) s.w.ps.length))
        rw [a1, er, a2, k6, to]
      · show max t.nx t.w.to = max t.w.fx t.w.to
        rw [k5, k6, fx]
  refine ⟨h5, newF D2, ms5, ?_, ?_, ⟨v5, fun k s' mk' => ?_⟩, ?_, ?_, ?_⟩
  · have e3' : forL [(D.p.out, D.p.os)] (fun x σ h => evSs (T.cf (run T (d + 9))) wkB (σ.set 2 (some x)) h) D.p.os [some (.ref D.a), some (.bl false), none] h2 = .nx [some (.ref D.a), some (.bl false), w] h3 := by
      have := e3
      rw [← v.os] at this
      exact this
    have oo : h2.g D.p.out = some (.lst D.p.os) := (v2.has.2 _ List.mem_cons_self).2
    have xa3 := x3.a
    rw [s3.a] at xa3 e5
    have xa3 : h3.g D.a = _ := xa3
    have e5 : run T (d + 9) 77 [.ref D.a] h3 = .ok .non h5 := e5
    have xpa := xp.a
    have xpa1 := x1.p.post.a
    simp only [oPost] at xpa xpa1
    rw [gr] at e1
    have eb : P.b_Desk_work = .of [.set (.one 1) (.meth (.attr (.loc 0) 19) 136 .nil), .for (.one 2) (.val (.meth (.attr (.loc 0) 19) 137 .nil)) wkB, .ite (.loc 1) (.of [.expr (.meth (.loc 0) 146 .nil)]) .nil, .expr (.meth (.loc 0) 138 .nil)] := rfl
    rw [run_fn (Lib1.f78 (T := T)) rfl rfl]
    simp [P.F_Desk_work, eb, startW, u_fldW, x0.a, xpa, e1, evS_for, x1.a, xpa1, e2, toLock_ref, oo, u_planR, u_planLR, e3', xa3, e5]
  · exact (v1.trans (v2.trans (u3.trans (u5.cons u3.has)))).tail
  · have lk : k < D.str.length := by
      have := (List.getElem?_eq_some_iff.mp mk').1
      omega
    exact (each k _ s' (List.getElem?_eq_getElem lk) mk').2.2
  · exact (Same.trans (⟨rfl, rfl, rfl⟩ : Same D D1) s3).trans s5
  · exact map_ext len5 fun k s s' a b => (each k s s' a b).1
  · exact map_ext len5 fun k s s' a b => (each k s s' a b).2.1
end
end Mn
end
section
set_option Elab.async false
set_option linter.all false
set_option maxRecDepth 100000
set_option maxHeartbeats 4000000
namespace Mn
open PySem L2
def prog4 (s : Stm) : Nat × Nat × Nat × Nat := (s.w.kn, s.cnt, s.nx, s.w.ps.length)
def wo (q : Nat × Nat × Nat × Nat) : Nat × Nat × Nat × Nat := (q.2.1, q.2.2.1, max q.2.2.1 (min (q.2.1 + 4) q.2.2.2), q.2.2.2)
def its : Nat → List (Nat × Nat × Nat × Nat) → List (Nat × Nat × Nat × Nat)
  | 0, l => l
  | n + 1, l => its n (l.map wo)
theorem its_succ : ∀ {n : Nat} {l : List (Nat × Nat × Nat × Nat)}, its (n + 1) l = (its n l).map wo
  | 0, l => rfl
  | n + 1, l => by
    show its (n + 1) (l.map wo) = (its n (l.map wo)).map wo
    exact its_succ
section
variable {T : Tx} [Lib1 T] {d : Nat} {h : Hm} {D : DS}
theorem InvB.tick {ms : List Msg} (v : InvB D ms) : InvB { D with p := { D.p with done := D.p.done + 1 } } ms :=
  ⟨⟨⟨v.com.n, v.com.hs, v.com.gr, v.com.sb, v.com.keys, v.com.nd, v.com.made, v.com.tot, v.com.rs, v.com.fs, v.com.ts, v.com.os, v.com.rl⟩, v.os, v.r, v.km⟩, v.fx⟩
def tkB : Sms := .of [.expr (.meth (.loc 0) 75 (.of [.lst .nil])), .expr (.meth (.loc 1) 139 .nil)]
theorem c_round {ms : List Msg} (x : Has h D.cells) (f : Free h) (v : InvB D ms) {l2 l3 : Option W} :
    ∃ h' D' ms', evSs (T.cf (run T (d + 10))) tkB [some (.ref D.p.a), some (.ref D.a), l2, l3] h = .nx [some (.ref D.p.a), some (.ref D.a), l2, l3] h' ∧ Upd h h' D.cells D'.cells ∧ InvB D' ms' ∧ Same D D' ∧ D'.str.map keyT = D.str.map keyT ∧ D'.str.map prog4 = (D.str.map prog4).map wo := by
  have u0 : Upd h (h.push (.lst [])) D.cells D.cells := Upd.push x
  have f0 := u0.free f
  have x0 := u0.has.desk
  have nin : h.n ∉ D.p.cells.map (·.1) := fun q => by
    obtain ⟨c, mc, ec⟩ := List.mem_map.mp q
    have := (x.desk.p.2 c mc).1
    omega
  obtain ⟨h1, r, e1, u1⟩ := c_tick (T := T) (d := d + 8) x0.p f0 (c := h.n) (by simp) (by simp) nin
  have v1 := Upd.post (p' := { D.p with done := D.p.done + 1 }) u1 u0.has rfl rfl
  have f1 := v1.free f0
  obtain ⟨h2, D', ms', e2, u2, v2, s2, k2, p2⟩ := c_work (T := T) (d := d) v1.has f1 v.tick
  have e2 : run T (d + 10) 78 [.ref D.a] h1 = .ok .non h2 := e2
  have nl : newL [] h = .ok (.ref h.n) (h.push (.lst [])) := newL_eq (by decide)
  have xa := v1.has.desk.a
  have xpa := x.desk.p.post.a
  simp only [oPost] at xpa
  refine ⟨h2, D', ms', ?_, (u0.trans v1).trans u2, v2, (⟨rfl, rfl, rfl⟩ : Same D { D with p := { D.p with done := D.p.done + 1 } }).trans s2, k2, ?_⟩
  · have xa : h1.g D.a = _ := xa
    simp [tkB, xpa, nl, e1, xa, e2]
  · have len : D'.str.length = D.str.length := by simpa using congrArg List.length k2
    rw [List.map_map]
    refine map_ext len fun k s s' m m' => ?_
    obtain ⟨t, mt, q⟩ := map_get k2 m'
    have mt : D.str[k]? = some t := mt
    rw [m] at mt
    have := Option.some.inj mt
    subst this
    have g := congrArg (fun z => z[k]?) p2
    simp only [List.getElem?_map, m', m] at g
    have g : prog s' = woS s := by
      exact Option.some.inj g
    simp only [prog, woS, Prod.mk.injEq] at g
    simp only [keyT, Prod.mk.injEq] at q
    have pl : s'.w.ps.length = s.w.ps.length := by
      have := congrArg List.length q.2.1
      simpa [WS.pp] using this
    show (s'.w.kn, s'.cnt, s'.nx, s'.w.ps.length) = (s.cnt, s.nx, max s.nx (min (s.cnt + 4) s.w.ps.length), s.w.ps.length)
    rw [g.1, g.2.1, g.2.2, pl]
theorem Same.keyT_trans {D1 D2 D3 : DS} (a : D2.str.map keyT = D1.str.map keyT) (b : D3.str.map keyT = D2.str.map keyT) : D3.str.map keyT = D1.str.map keyT := b.trans a
theorem ticks_loop {ms : List Msg} (x : Has h D.cells) (f : Free h) (v : InvB D ms) {n : Nat} {l2 : Option W} :
    ∃ σ' h' D' ms', forL [] (fun x σ h => evSs (T.cf (run T (d + 10))) tkB (σ.set 3 (some x)) h) ((List.range' 0 n).map fun i : Nat => W.int i) [some (.ref D.p.a), some (.ref D.a), l2, none] h = .nx σ' h' ∧ Upd h h' D.cells D'.cells ∧ InvB D' ms' ∧ Same D D' ∧ D'.str.map keyT = D.str.map keyT ∧ D'.str.map prog4 = its n (D.str.map prog4) := by
  let I : List Nat → List (Option W) → Hm → Prop := fun ys σ h' => ∃ l3 D' ms', σ = [some (.ref D.p.a), some (.ref D.a), l2, l3] ∧ Upd h h' D.cells D'.cells ∧ InvB D' ms' ∧ Same D D' ∧ D'.str.map keyT = D.str.map keyT ∧ its ys.length (D'.str.map prog4) = its n (D.str.map prog4)
  have hI : I (List.range' 0 n) [some (.ref D.p.a), some (.ref D.a), l2, none] h := ⟨none, D, ms, rfl, Upd.refl x, v, Same.refl, rfl, by rw [List.length_range']⟩
  obtain ⟨σ', h', e, ⟨l3, D', ms', _, u, v', s', k', p'⟩⟩ := forL_ex (gd := []) (k := fun i : Nat => W.int i) (f := fun x σ h => evSs (T.cf (run T (d + 10))) tkB (σ.set 3 (some x)) h) I (fun _ _ _ _ => rfl) (fun y ys σ h' i => by
        obtain ⟨l3, D', ms', rfl, u, v', s', k', p'⟩ := i
        obtain ⟨h2, D2, ms2, e2, u2, v2, s2, k2, p2⟩ := c_round (T := T) (d := d) (l2 := l2) (l3 := some (.int y)) u.has (u.free f) v'
        rw [s'.a, s'.pa] at e2
        exact ⟨_, h2, e2, _, D2, ms2, rfl, u.trans u2, v2, s'.trans s2, k2.trans k', by rw [p2]; exact p'⟩) hI
  exact ⟨σ', h', D', ms', e, u, v', s', k', p'⟩
def mu (l : List (Nat × Nat × Nat × Nat)) : Nat := (l.map fun q => q.1 + q.2.1 + q.2.2.1).sum
def nu (l : List (Nat × Nat × Nat × Nat)) : Nat := (l.map fun q => (q.2.2.2 - q.1) + (q.2.2.2 - q.2.1) + (q.2.2.2 - q.2.2.1)).sum
def OkQ (q : Nat × Nat × Nat × Nat) : Prop := q.1 ≤ q.2.1 ∧ q.2.1 ≤ q.2.2.1 ∧ q.2.2.1 ≤ q.2.2.2
theorem nu_wo : ∀ {l : List (Nat × Nat × Nat × Nat)}, (∀ q, q ∈ l → OkQ q) → (nu (l.map wo) ≤ nu l) ∧ ((∃ q, q ∈ l ∧ q.1 < q.2.2.2) → nu (l.map wo) < nu l)
  | [], _ => ⟨Nat.le_refl _, fun ⟨_, m, _⟩ => by cases m⟩
  | q :: l, ok => by
    obtain ⟨a, b⟩ := nu_wo (l := l) fun y m => ok y (List.mem_cons_of_mem _ m)
    have o := ok q List.mem_cons_self
    obtain ⟨q1, q2, q3, q4⟩ := q
    unfold OkQ at o
    have e : ∀ (l : List (Nat × Nat × Nat × Nat)) (q : Nat × Nat × Nat × Nat), nu (q :: l) = (q.2.2.2 - q.1) + (q.2.2.2 - q.2.1) + (q.2.2.2 - q.2.2.1) + nu l := fun l q => by simp [nu]
    rw [List.map_cons, e, e]
    dsimp only at o
    simp only [wo]
    refine ⟨by omega, fun ⟨y, m, ly⟩ => ?_⟩
    rcases List.mem_cons.mp m with rfl | m
    · dsimp only at ly
      omega
    · have := b ⟨y, m, ly⟩
      omega
end
end Mn
end
section
open Mn
set_option maxRecDepth 100000
instance : Lib1 T69.tx := by constructor <;> first | rfl | decide +kernel
end
section
set_option Elab.async false
set_option linter.all false
set_option maxRecDepth 100000
set_option maxHeartbeats 4000000
namespace T69
open PySem L2 Mn
theorem f300 : tx.fn 300 = some F__law_cell_at := rfl
theorem f301 : tx.fn 301 = some F__law_mixed := rfl
theorem f302 : tx.fn 302 = some F__law_drawn := rfl
theorem f303 : tx.fn 303 = some F__law_written := rfl
theorem f304 : tx.fn 304 = some F__law_ticks := rfl
theorem f305 : tx.fn 305 = some F__law_ticks_to_rest := rfl
theorem f306 : tx.fn 306 = some F__law_long := rfl
theorem f307 : tx.fn 307 = some F__law_more := rfl
theorem f308 : tx.fn 308 = some F__law_read_right := rfl
theorem f309 : tx.fn 309 = some F_law := rfl
section
variable {d : Nat} {h : Hm} {D : DS}
theorem c_ticks {ms : List Msg} (x : Has h D.cells) (f : Free h) (v : InvB D ms) {n : Nat} (hn : n < 1000) :
    ∃ h' D' ms', run tx (d + 11) 304 [.ref D.p.a, .ref D.a, .int n] h = .ok .non h' ∧ Upd h h' D.cells D'.cells ∧ InvB D' ms' ∧ Same D D' ∧ D'.str.map keyT = D.str.map keyT ∧ D'.str.map prog4 = its n (D.str.map prog4) := by
  obtain ⟨σ', h', D', ms', e, u, v', s', k', p'⟩ := ticks_loop (T := tx) (d := d) (n := n) (l2 := some (.int n)) x f v
  refine ⟨h', D', ms', ?_, u, v', s', k', p'⟩
  have eb : b__law_ticks = .of [.for (.one 3) (.rng (.con (.int 0)) (.loc 2)) tkB] := rfl
  have rg : evI (tx.cf (run tx (d + 10))) (.rng (.con (.int 0)) (.loc 2)) [some (.ref D.p.a), some (.ref D.a), some (.int n), none] h = .ok ⟨(List.range' 0 n).map fun i : Nat => W.int i, []⟩ h := by
    exact evI_rngN (m := 0) (n := n) (by simp) (by simp) (by omega) (by omega)
  rw [run_fn f304 rfl rfl]
  simp [-q_evI_rng, F__law_ticks, eb, startW, evS_for, rg, e]
theorem okq {ms : List Msg} (v : InvB D ms) : ∀ q, q ∈ D.str.map prog4 → OkQ q := fun q m => by
  obtain ⟨s, hs, rfl⟩ := List.mem_map.mp m
  obtain ⟨k, hk⟩ := List.getElem?_of_mem hs
  have sb := (v.com.sb _ _ hk).1
  have c3 := sb.c3
  have c4 := sb.c4
  exact ⟨sb.c1, sb.c2, by show s.nx ≤ s.w.ps.length; omega⟩
theorem kns {ms : List Msg} (v : InvB D ms) : ∀ s, s ∈ D.str → s.w.kn ≤ s.w.ps.length := fun s hs => by
  obtain ⟨k, hk⟩ := List.getElem?_of_mem hs
  exact (v.com.sb _ _ hk).1.wok.kn
theorem nu_le {ms : List Msg} (v : InvB D ms) : nu (D.str.map prog4) ≤ 3 * D.unf := by
  have a : nu (D.str.map prog4) = (D.str.map fun s => (s.w.ps.length - s.w.kn) + (s.w.ps.length - s.cnt) + (s.w.ps.length - s.nx)).sum := by
    unfold nu
    rw [List.map_map]
    rfl
  have b := sum_le (l := D.str) (f := fun s => (s.w.ps.length - s.w.kn) + (s.w.ps.length - s.cnt) + (s.w.ps.length - s.nx)) (g := fun s => 3 * (s.w.ps.length - s.w.kn)) fun s hs => by
    obtain ⟨k, hk⟩ := List.getElem?_of_mem hs
    have sb := (v.com.sb _ _ hk).1
    have c1 := sb.c1
    have c2 := sb.c2
    omega
  have c : ∀ l : List Stm, (l.map fun s => 3 * (s.w.ps.length - s.w.kn)).sum = 3 * (l.map fun s => s.w.ps.length - s.w.kn).sum := fun l => by
    induction l with
    | nil => rfl
    | cons s l ih =>
      simp only [List.map_cons, List.sum_cons]
      omega
  rw [c] at b
  rw [a]
  exact b
theorem unf_nu (z : nu (D.str.map prog4) = 0) : D.unf = 0 := by
  have : ∀ l : List Stm, nu (l.map prog4) = 0 → (l.map fun s => s.w.ps.length - s.w.kn).sum = 0 := fun l => by
    induction l with
    | nil => exact fun _ => rfl
    | cons s l ih =>
      intro z
      have e : nu (List.map prog4 (s :: l)) = ((s.w.ps.length - s.w.kn) + (s.w.ps.length - s.cnt) + (s.w.ps.length - s.nx)) + nu (l.map prog4) := by simp [nu, prog4]
      have := ih (by omega)
      simp only [List.map_cons, List.sum_cons]
      omega
  exact this _ z
theorem unf_pos (z : D.unf ≠ 0) : ∃ q, q ∈ D.str.map prog4 ∧ q.1 < q.2.2.2 := by
  have : ∀ l : List Stm, (l.map fun s => s.w.ps.length - s.w.kn).sum ≠ 0 → ∃ q, q ∈ l.map prog4 ∧ q.1 < q.2.2.2 := fun l => by
    induction l with
    | nil => exact fun z => absurd rfl z
    | cons s l ih =>
      intro z
      by_cases y : s.w.kn < s.w.ps.length
      · exact ⟨prog4 s, by simp, y⟩
      · simp only [List.map_cons, List.sum_cons] at z
        obtain ⟨q, m, lq⟩ := ih (by omega)
        exact ⟨q, List.mem_cons_of_mem _ m, lq⟩
  exact this _ z
def rsB : Sms := .of [.expr (.call 304 (.of [.loc 0, .loc 1, .con (.int 1)])), .set (.one 2) (.bin .sub (.loc 2) (.con (.int 1)))]
def rsC : Ex := .and (.cmp .gt (.loc 2) (.con (.int 0))) (.not (.meth (.loc 1) 93 .nil))
theorem unf_le {ms : List Msg} (v : InvB D ms) : D.unf ≤ 20000 := by
  have b := sum_le (l := D.str) (f := fun s => s.w.ps.length - s.w.kn) (g := fun s => s.w.ps.length) fun s hs => by omega
  have := v.com.tot
  unfold DS.unf
  omega
theorem c_rest {ms : List Msg} (x : Has h D.cells) (f : Free h) (v : InvB D ms) :
    ∃ h' D' ms', run tx (d + 12) 305 [.ref D.p.a, .ref D.a] h = .ok .non h' ∧ Upd h h' D.cells D'.cells ∧ InvB D' ms' ∧ Same D D' ∧ D'.str.map keyT = D.str.map keyT ∧ D'.unf = 0 := by
  have lnn : line = 16777216 := rfl
  have e0 : run tx (d + 11) 64 [.ref D.a] h = .ok (.int (D.unf + D.str.length : Nat)) h := c_unfinished x.desk f.lk (kns v) (by have := v.com.n; omega)
  have nl := nu_le v
  have ul := unf_le v
  have sl := v.com.n
  let P : F → Prop := fun r => ∃ σ' h' D' ms', r = .nx σ' h' ∧ Upd h h' D.cells D'.cells ∧ InvB D' ms' ∧ Same D D' ∧ D'.str.map keyT = D.str.map keyT ∧ D'.unf = 0
  let I : Nat → List (Option W) → Hm → Prop := fun m σ h' => ∃ D' ms', σ = [some (.ref D.p.a), some (.ref D.a), some (.int m)] ∧ Upd h h' D.cells D'.cells ∧ InvB D' ms' ∧ Same D D' ∧ D'.str.map keyT = D.str.map keyT ∧ nu (D'.str.map prog4) ≤ m
  have main := whileL_inv (c := fun σ h => evT (tx.cf (run tx (d + 11))) rsC σ h) (b := fun σ h => evSs (tx.cf (run tx (d + 11))) rsB σ h) I (P := P) (fun m σ h' i => by
    obtain ⟨D', ms', rfl, u, v', s', k', n'⟩ := i
    have ei : run tx (d + 11) 65 [.ref D'.a] h' = .ok (.bl (decide (D'.unf = 0))) h' := c_is_idle u.has.desk (u.free f).lk (kns v') (by have := v'.com.n; omega)
    rw [s'.a] at ei
    have xa := u.has.desk.a
    rw [s'.a] at xa
    by_cases z : D'.unf = 0
    · refine .inl ⟨h', ?_, _, h', D', ms', rfl, u, v', s', k', z⟩
      by_cases m0 : m = 0
      · simp [rsC, m0]
      · have : 0 < m := by omega
        simp [rsC, this, xa, ei, z]
    · have mp : 0 < m := by
        rcases Nat.eq_zero_or_pos m with q | q
        · exact absurd (unf_nu (by omega)) z
        · exact q
      have mpi : (0 : Int) < m := by omega
      obtain ⟨h2, D2, ms2, e2, u2, v2, s2, k2, p2⟩ := c_ticks (d := d) (n := 1) u.has (u.free f) v' (by omega)
      rw [s'.a, s'.pa] at e2
      have dec := (nu_wo (okq v')).2 (unf_pos z)
      have p2 : D2.str.map prog4 = (D'.str.map prog4).map wo := p2
      have e2 : run tx (d + 11) 304 [.ref D.p.a, .ref D.a, .int 1] h' = .ok .non h2 := e2
      refine .inr ⟨h', ?_, [some (.ref D.p.a), some (.ref D.a), some (.int (m - 1 : Nat))], h2, m - 1, ?_, by omega, D2, ms2, rfl, u.trans u2, v2, s'.trans s2, k2.trans k', by rw [p2]; omega⟩
      · simp [rsC, mp, xa, ei, z]
      · have em : (m : Int) - 1 = ((m - 1 : Nat) : Int) := by omega
        have c304 : (tx.cf (run tx (d + 11))).has 304 = true := rfl
        simp [rsB, c304, e2, em]) (n := 1000000) (m := 4 + 6 * (D.unf + D.str.length)) (σ := [some (.ref D.p.a), some (.ref D.a), some (.int (4 + 6 * (D.unf + D.str.length) : Nat))]) (h := h) (by omega) ⟨D, ms, rfl, Upd.refl x, v, Same.refl, rfl, by omega⟩
  obtain ⟨σ', h', D', ms', e, u, v', s', k', z⟩ := main
  refine ⟨h', D', ms', ?_, u, v', s', k', z⟩
  have eb : b__law_ticks_to_rest = .of [.set (.one 2) (.bin .add (.con (.int 4)) (.bin .mul (.con (.int 6)) (.meth (.loc 1) 89 .nil))), .whl rsC rsB] := rfl
  have mu : binW .mul (.int 6) (.int (D.unf + D.str.length : Nat)) h = .ok (.int (6 * (D.unf + D.str.length : Nat))) h := w_mul (by
    have a : (6 : Int).natAbs.log2 ≤ 6 := Nat.log2_le_self _
    have b : ((D.unf + D.str.length : Nat) : Int).natAbs.log2 ≤ D.unf + D.str.length := Nat.log2_le_self _
    omega)
  rw [run_fn f305 rfl rfl]
  have xa := x.desk.a
  simp only [F__law_ticks_to_rest, eb, Sms.of_cons, Sms.of_nil, evSs_cons, evSs_nil]
  rw [show startW 3 [W.ref D.p.a, .ref D.a] = [some (.ref D.p.a), some (.ref D.a), none] from rfl]
  have s1 : evS (tx.cf (run tx (d + 11))) (.set (.one 2) (.bin .add (.con (.int 4)) (.bin .mul (.con (.int 6)) (.meth (.loc 1) 89 .nil)))) [some (.ref D.p.a), some (.ref D.a), none] h = .nx [some (.ref D.p.a), some (.ref D.a), some (.int (4 + 6 * (D.unf + D.str.length) : Nat))] h := by
    simp only [Int.natCast_add] at e0 mu
    simp [xa, e0, mu]
  rw [s1]
  simp only [F.seq_nx]
  rw [evS_whl]
  exact congrArg (fun z : F => (z.seq fun σ h => F.nx σ h).out) e
end
end T69
end
section
set_option Elab.async false
set_option linter.all false
set_option maxRecDepth 100000
set_option maxHeartbeats 4000000
namespace Mn
open PySem L2
theorem addS_flat {fx s : Nat} {ps : List (List Nat)} : (addS fx ps s).flatten = ps.flatten ++ [s] := by
  rcases List.eq_nil_or_concat ps with e | ⟨i, l, e⟩
  · subst e
    simp [addS_nil]
  · rw [List.concat_eq_append] at e
    subst e
    rw [addS_app]
    split <;> simp
theorem addS_take {fx s : Nat} {ps : List (List Nat)} (q : fx ≤ ps.length) : (addS fx ps s).take fx = ps.take fx := by
  rcases List.eq_nil_or_concat ps with e | ⟨i, l, e⟩
  · subst e
    have : fx = 0 := by simpa using q
    subst this
    rfl
  · rw [List.concat_eq_append] at e
    subst e
    rw [addS_app]
    by_cases z : i.length + 1 ≤ fx ∨ l.length = 12
    · rw [if_pos z, List.take_append_of_le_length (by simpa using q)]
    · rw [if_neg z, List.take_append_of_le_length (by omega), List.take_append_of_le_length (by omega)]
theorem addS_ne {fx s : Nat} {ps : List (List Nat)} (q : ∀ p, p ∈ ps → p ≠ []) : ∀ p, p ∈ addS fx ps s → p ≠ [] := by
  rcases List.eq_nil_or_concat ps with e | ⟨i, l, e⟩
  · subst e
    simp [addS_nil]
  · rw [List.concat_eq_append] at e
    subst e
    rw [addS_app]
    intro p m
    split at m
    · rcases List.mem_append.mp m with m | m
      · exact q p m
      · simp at m
        simp [m]
    · rcases List.mem_append.mp m with m | m
      · exact q p (List.mem_append_left _ m)
      · simp at m
        simp [m]
theorem addS_sg {fx s : Nat} {ps : List (List Nat)} {P : Nat → Prop} (q : ∀ p, p ∈ ps → ∀ x, x ∈ p → P x) (hs : P s) : ∀ p, p ∈ addS fx ps s → ∀ x, x ∈ p → P x := by
  intro p m x mx
  have : x ∈ (addS fx ps s).flatten := List.mem_flatten.mpr ⟨p, m, mx⟩
  rw [addS_flat] at this
  rcases List.mem_append.mp this with z | z
  · obtain ⟨p', m', mx'⟩ := List.mem_flatten.mp z
    exact q p' m' x mx'
  · simp at z
    subst z
    exact hs
theorem addSs {fx : Nat} : ∀ {L : List Nat} {ps : List (List Nat)}, fx ≤ ps.length → (∀ p, p ∈ ps → p.length ≤ 12) → (∀ p, p ∈ ps → ∀ x, x ∈ p → x < 96 ∧ x ≠ 5) → (∀ x, x ∈ L → x < 96 ∧ x ≠ 5) → (∀ p, p ∈ ps → p ≠ []) →
    (L.foldl (addS fx) ps).flatten = ps.flatten ++ L ∧ (L.foldl (addS fx) ps).take fx = ps.take fx ∧ (∀ p, p ∈ L.foldl (addS fx) ps → p.length ≤ 12) ∧ (∀ p, p ∈ L.foldl (addS fx) ps → ∀ x, x ∈ p → x < 96 ∧ x ≠ 5) ∧ (∀ p, p ∈ L.foldl (addS fx) ps → p ≠ []) ∧ ps.length ≤ (L.foldl (addS fx) ps).length ∧ (L.foldl (addS fx) ps).length ≤ ps.length + L.length
  | [], ps, q, a, b, c, e => ⟨by simp, rfl, a, b, e, Nat.le_refl _, Nat.le_refl _⟩
  | s :: L, ps, q, a, b, c, e => by
    have l := addS_len (fx := fx) (ps := ps) (s := s)
    obtain ⟨r1, r2, r3, r4, r5, r6, r7⟩ := addSs (fx := fx) (L := L) (ps := addS fx ps s) (by omega) (addS_small a) (addS_sg b (c s List.mem_cons_self)) (fun x m => c x (List.mem_cons_of_mem _ m)) (addS_ne e)
    rw [List.foldl_cons]
    refine ⟨?_, r2.trans (addS_take q), r3, r4, r5, by omega, by simp only [List.length_cons]; omega⟩
    rw [r1, addS_flat]
    simp
theorem getD_take {α : Type} {l l' : List (List α)} {fx n : Nat} (e : l'.take fx = l.take fx) (q : n < fx) : l'.getD n [] = l.getD n [] := by
  have := congrArg (fun z => z[n]?) e
  simp only [List.getElem?_take, if_pos q] at this
  rw [List.getD_eq_getElem?_getD, List.getD_eq_getElem?_getD, this]
section
variable {D : DS}
theorem InvB.setw {ms : List Msg} (v : InvB D ms) {k : Nat} {s : Stm} (m : D.str[k]? = some s) {w' : WS} (hc : s.w.cl = false) (hk : w'.kn = s.w.kn) (hf : w'.fx = s.w.fx) (ok : WOk w') (hl : s.w.fx ≤ w'.ps.length) (ht : w'.pp.take s.w.fx = s.w.pp.take s.w.fx) (hcl : w'.cl = true → s.w.fx < w'.ps.length) (tot : ((D.str.set k { s with w := w' }).map fun s => s.w.ps.length).sum ≤ 20000) :
    InvB { D with str := D.str.set k { s with w := w' } } ms := by
  obtain ⟨sb, el⟩ := v.com.sb _ _ m
  have c1 := sb.c1
  have c2 := sb.c2
  have c3 := sb.c3
  have c4 := sb.c4
  have bd : ∀ n, n < s.w.fx → w'.body n = s.w.body n := fun n q => by
    unfold WS.body
    rw [getD_take ht q, if_neg (fun z : w'.cl = true ∧ n + 1 = w'.ps.length => by have := hcl z.1; omega), if_neg (fun z : s.w.cl = true ∧ n + 1 = s.w.ps.length => by have := z.1; rw [hc] at this; cases this)]
  refine ⟨⟨⟨by simpa using v.com.n, v.com.hs, v.com.gr, fun j t mt => ?_, fun j y => by simpa using v.com.keys j y, v.com.nd, ?_, tot, v.com.rs, v.com.fs, v.com.ts, v.com.os, v.com.rl⟩, v.os, fun j t mt => ?_, fun y my => by simpa using v.km y my⟩, fun j t mt => ?_⟩
  · rcases get_set m mt with ⟨rfl, rfl⟩ | ⟨nj, mt⟩
    · refine ⟨⟨ok, by show w'.kn ≤ s.cnt; omega, sb.c2, by show s.nx ≤ w'.fx; omega, by show w'.fx ≤ w'.ps.length; omega, ?_, ?_, sb.rd⟩, el⟩
      · show s.ss = (w'.pp.take s.cnt).flatten
        have e : ∀ l : List (List Nat), l.take s.cnt = (l.take s.w.fx).take s.cnt := fun l => by
          rw [List.take_take, Nat.min_eq_left (by omega)]
        rw [sb.ss, e, e w'.pp, ht]
      · show s.rcl = decide (0 < s.cnt ∧ w'.cl = true ∧ s.cnt = w'.ps.length)
        rw [sb.rc]
        congr 1
        apply propext
        constructor
        · rintro ⟨_, z, _⟩
          rw [hc] at z
          cases z
        · rintro ⟨_, z, y⟩
          have := hcl z
          omega
    · exact v.com.sb _ _ mt
  · show _ = ((D.str.set k { s with w := w' }).map fun s => s.nx + s.cnt).sum
    rw [map_set (f := fun s : Stm => s.nx + s.cnt) (s' := { s with w := w' }) m rfl]
    exact v.com.made
  · rcases get_set m mt with ⟨rfl, rfl⟩ | ⟨nj, mt⟩
    · show _ = hads w'.kn s.cnt ++ prts w' s.cnt s.nx
      rw [v.r _ _ m, hk]
      congr 1
      unfold prts
      apply List.map_congr_left
      intro n mn
      have := List.mem_range'_1.mp mn
      rw [bd n (by omega)]
    · exact v.r _ _ mt
  · rcases get_set m mt with ⟨rfl, rfl⟩ | ⟨nj, mt⟩
    · show s.nx = w'.fx
      rw [hf]
      exact v.fx _ _ m
    · exact v.fx _ _ mt
theorem fil_none {k : Nat} {ms : List Msg} (q : ∀ m, m ∈ ms → m.k ≠ k) : fil k ms = [] := by
  unfold fil
  rw [List.filter_eq_nil_iff.mpr fun m mm => by simpa using q m mm]
  rfl
theorem InvB.begin {ms : List Msg} (v : InvB D ms) {n : Nat} (hn : D.str.length < 200) : InvB { D with str := D.str ++ [newStm n] } ms := by
  have gs : ∀ {j : Nat} {t : Stm}, (D.str ++ [newStm n])[j]? = some t → (D.str[j]? = some t) ∨ (j = D.str.length ∧ t = newStm n) := fun {j t} mt => by
    by_cases q : j < D.str.length
    · rw [List.getElem?_append_left q] at mt
      exact .inl mt
    · rw [List.getElem?_append_right (by omega)] at mt
      have : j - D.str.length = 0 := by
        have := (List.getElem?_eq_some_iff.mp mt).1
        simp at this
        omega
      rw [this] at mt
      exact .inr ⟨by omega, (Option.some.inj mt).symm⟩
  refine ⟨⟨⟨by show (D.str ++ [newStm n]).length ≤ 200; simp; omega, v.com.hs, v.com.gr, fun j t mt => ?_, fun j y => ?_, v.com.nd, ?_, ?_, v.com.rs, v.com.fs, v.com.ts, v.com.os, v.com.rl⟩, v.os, fun j t mt => ?_, fun y my => ?_⟩, fun j t mt => ?_⟩
  · rcases gs mt with mt | ⟨rfl, rfl⟩
    · exact v.com.sb _ _ mt
    · refine ⟨⟨⟨by simp [newStm, WS.pp], by simp [newStm, WS.pp], by simp [newStm], by simp [newStm]⟩, by simp [newStm, Stm.cnt], by simp [newStm, Stm.cnt], by simp [newStm], by simp [newStm], by simp [newStm, Stm.ss, Stm.cnt, WS.pp], by simp [newStm, Stm.rcl], by simp [newStm, Stm.cnt]⟩, ?_⟩
      show D.rds.lookup D.str.length = none
      rw [List.lookup_eq_none_iff]
      intro p mp
      have := v.com.keys p.1 (List.mem_map.mpr ⟨p, mp, rfl⟩)
      simp
      omega
  · have := v.com.keys j y
    show j < (D.str ++ [newStm n]).length
    simp
    omega
  · show _ = ((D.str ++ [newStm n]).map fun s => s.nx + s.cnt).sum
    simp [v.com.made, newStm, Stm.cnt]
  · show ((D.str ++ [newStm n]).map fun s => s.w.ps.length).sum ≤ _
    have := v.com.tot
    simpa [newStm] using this
  · rcases gs mt with mt | ⟨rfl, rfl⟩
    · exact v.r _ _ mt
    · rw [fil_none fun m mm => by have := v.km m mm; omega, hads_self (by simp [newStm, Stm.cnt]), prts_self (by simp [newStm])]
      rfl
  · have := v.km y my
    show y.k < (D.str ++ [newStm n]).length
    simp
    omega
  · rcases gs mt with mt | ⟨rfl, rfl⟩
    · exact v.fx _ _ mt
    · rfl
end
end Mn
end
section
set_option Elab.async false
set_option linter.all false
set_option maxRecDepth 100000
set_option maxHeartbeats 4000000
namespace Mn
open PySem L2
def pairW (hs k : Nat) : W := .tup [.int hs, .int k]
def pairD (hs k : Nat) : PyData := .tuple [.int hs, .int k]
def leN (i j : Nat) : Bool := decide (i ≤ j)
def sortN (l : List Nat) : List Nat := sortD leN l
theorem le_pair (hs i j : Nat) : PySem.W.dataLe false (fun p : W × PyData => p.2) (pairW hs i, pairD hs i) (pairW hs j, pairD hs j) = leN i j := by
  simp only [pairD, leN, PySem.W.dataLe, PySem.W.sortLe, PySem.W.keyToks, PySem.W.keyToksAll, cond_false, List.cons_append, List.nil_append]
  simp only [PyProof.Rows.lexLt, PyProof.Rows.itemLt]
  by_cases q : i ≤ j
  · have a : ¬ ((j : Int) < i) := by omega
    by_cases z : (i : Int) < j
    · simp [q, a, z]
    · simp [q, a, z]
  · have a : (j : Int) < i := by omega
    simp [q, a]
theorem insD_map {hs k : Nat} : ∀ l : List Nat, insD (PySem.W.dataLe false fun p : W × PyData => p.2) (pairW hs k, pairD hs k) (l.map fun k => (pairW hs k, pairD hs k)) = (insD leN k l).map fun k => (pairW hs k, pairD hs k)
  | [] => rfl
  | j :: l => by
    have ih := insD_map (hs := hs) (k := k) l
    simp only [List.map_cons, insD, le_pair]
    by_cases q : leN k j = true
    · rw [if_pos q, if_pos q]
      rfl
    · rw [if_neg q, if_neg q, ih]
      rfl
theorem sortD_map {hs : Nat} : ∀ l : List Nat, sortD (PySem.W.dataLe false fun p : W × PyData => p.2) (l.map fun k => (pairW hs k, pairD hs k)) = (sortN l).map fun k => (pairW hs k, pairD hs k)
  | [] => rfl
  | j :: l => by
    have ih := sortD_map (hs := hs) l
    rw [List.map_cons, sortD, ih, insD_map]
    rfl
theorem dats_map {h : Hm} {ι : Type} {k : ι → W} {g : ι → PyData} {c : Nat} : ∀ {ys : List ι} {n : Nat}, (∀ y, y ∈ ys → ∀ m, c ≤ m → dat m h (k y) = some (g y)) → c + ys.length + 1 ≤ n → dats n h (ys.map k) = some (ys.map g)
  | [], n + 1, _, _ => rfl
  | y :: ys, n + 1, hk, hn => by
    have a := hk y List.mem_cons_self n (by simp at hn; omega)
    have b := dats_map (ys := ys) (n := n) (fun z m => hk z (List.mem_cons_of_mem _ m)) (by simp at hn; omega)
    simp only [List.map_cons, dats, a, b]
theorem dat_pair {h : Hm} {hs k m : Nat} (q : 5 ≤ m) : dat m h (pairW hs k) = some (pairD hs k) := by
  obtain ⟨n, rfl⟩ : ∃ n, m = n + 5 := ⟨m - 5, by omega⟩
  simp [pairW, pairD, dat, dats]
theorem sortW_pairs {h : Hm} {hs : Nat} {l : List Nat} (q : l.length ≤ 9000) : sortW h (l.map (pairW hs)) = some ((sortN l).map (pairW hs)) := by
  have d := dats_map (h := h) (k := pairW hs) (g := pairD hs) (c := 5) (ys := l) (n := 10000) (fun y _ m q => dat_pair q) (by omega)
  have s : sortable (l.map (pairD hs)) = true := by
    have a : ∀ i j, PySem.W.alike (pairD hs i) (pairD hs j) = true := fun i j => by simp [pairD, PySem.W.alike, PySem.W.alikeAll]
    have b : ∀ i, (pairD hs i).depth ≤ 64 := fun i => by simp [pairD, PyData.depth, PyData.depthAll]
    have c : ∀ i, tupled (pairD hs i) = true := fun i => rfl
    simp [sortable, a, b, c]
  unfold sortW
  rw [d]
  dsimp only
  rw [s]
  have e : (l.map (pairW hs)).zip (l.map (pairD hs)) = l.map fun k => (pairW hs k, pairD hs k) := by
    rw [List.zip_map']
  rw [e, sortD_map]
  have e2 : ((sortN l).map fun k => (pairW hs k, pairD hs k)).map (·.1) = (sortN l).map (pairW hs) := by
    rw [List.map_map]
    rfl
  rw [e2]
  simp [line]
  omega
theorem insD_perm {k : Nat} : ∀ l : List Nat, (insD leN k l).Perm (k :: l)
  | [] => List.Perm.refl _
  | j :: l => by
    unfold insD
    split
    · exact List.Perm.refl _
    · exact ((insD_perm l).cons j).trans (List.Perm.swap _ _ _)
theorem sortN_perm : ∀ l : List Nat, (sortN l).Perm l
  | [] => List.Perm.refl _
  | j :: l => (insD_perm _).trans ((sortN_perm l).cons j)
theorem insD_sorted {k : Nat} : ∀ {l : List Nat}, l.Pairwise (· ≤ ·) → (insD leN k l).Pairwise (· ≤ ·)
  | [], _ => by simp [insD]
  | j :: l, p => by
    unfold insD
    obtain ⟨a, b⟩ := List.pairwise_cons.mp p
    by_cases q : leN k j = true
    · rw [if_pos q]
      have q : k ≤ j := by simpa [leN] using q
      exact List.pairwise_cons.mpr ⟨fun x m => by
        rcases List.mem_cons.mp m with rfl | m
        · exact q
        · exact Nat.le_trans q (a x m), p⟩
    · rw [if_neg q]
      have q : j ≤ k := by
        simp [leN] at q
        omega
      refine List.pairwise_cons.mpr ⟨fun x m => ?_, insD_sorted b⟩
      rcases List.mem_cons.mp ((insD_perm l).mem_iff.mp m) with rfl | m
      · exact q
      · exact a x m
theorem sortN_sorted : ∀ l : List Nat, (sortN l).Pairwise (· ≤ ·)
  | [] => List.Pairwise.nil
  | j :: l => insD_sorted (sortN_sorted l)
theorem sorted_ext : ∀ {l r : List Nat}, l.Perm r → l.Pairwise (· ≤ ·) → r.Pairwise (· ≤ ·) → l = r := fun {l r} p a b => List.Perm.eq_of_pairwise (fun x y _ _ h1 h2 => Nat.le_antisymm h1 h2) a b p
theorem sortN_of {l r : List Nat} (p : l.Perm r) (b : r.Pairwise (· ≤ ·)) : sortN l = r := sorted_ext ((sortN_perm l).trans p) (sortN_sorted l) b
theorem sortN_idem (l : List Nat) : sortN (sortN l) = sortN l := sortN_of (List.Perm.refl _) (sortN_sorted l)
end Mn
end
section
set_option Elab.async false
set_option linter.all false
set_option maxRecDepth 100000
set_option maxHeartbeats 4000000
namespace Mn
open PySem L2
def heardW (D : DS) (k : Nat) : W := match D.str[k]? with
  | some s => .tup [.int D.p.hs, .int k, .str (txt s.ss), .bl s.rcl]
  | none => .non
def DS.hk (D : DS) : List Nat := sortN (D.rds.map (·.1))
def DS.heard (D : DS) : List W := D.hk.map (heardW D)
theorem ss_ok {s : Stm} (sb : SB s) : (∀ x, x ∈ s.ss → x < 96 ∧ x ≠ 5) ∧ s.ss.length ≤ 108000 := by
  rw [sb.ss]
  refine ⟨fun x m => ?_, ?_⟩
  · obtain ⟨p, mp, mx⟩ := List.mem_flatten.mp m
    exact sb.wok.sg p (List.mem_of_mem_take mp) x mx
  · have a := len_flat (l := s.w.pp.take s.cnt) fun y my => sb.wok.p12 y (List.mem_of_mem_take my)
    have b := sb.wok.ln
    have c : s.w.pp.length = s.w.ps.length := by simp [WS.pp]
    rw [List.length_take] at a
    omega
section
variable {T : Tx} [Lib1 T] {d : Nat} {h : Hm} {D : DS}
theorem olds_map {ι : Type} {n : Nat} {g : ι → W} : ∀ {l : List ι}, (∀ y, y ∈ l → old n (g y) = true) → olds n (l.map g) = true
  | [], _ => rfl
  | y :: l, q => by
    have a := q y List.mem_cons_self
    have b := olds_map (l := l) fun z m => q z (List.mem_cons_of_mem _ m)
    show (old n (g y) && olds n (l.map g)) = true
    rw [a, b]
    rfl
def hdB : Sms := .of [.set (.one 4) (.attr (.sub (.attr (.loc 0) 22) (.tup (.of [.loc 2, .loc 3]))) 68), .expr (.bm .append (.loc 1) (.of [.tup (.of [.loc 2, .loc 3, .meth (.loc 4) 125 .nil, .meth (.loc 4) 126 .nil])]))]
theorem key_get (c : Com D) {k : Nat} (m : k ∈ D.rds.map (·.1)) : ∃ s r, D.str[k]? = some s ∧ s.rd = some r ∧ D.rds.lookup k = some r.row := by
  have lk := c.keys k m
  obtain ⟨s, ms⟩ : ∃ s, D.str[k]? = some s := ⟨_, List.getElem?_eq_getElem lk⟩
  have el := (c.sb _ _ ms).2
  cases e : s.rd with
  | some r => exact ⟨s, r, ms, e, by rw [el, e]; rfl⟩
  | none =>
    rw [e] at el
    obtain ⟨p, mp, ep⟩ := List.mem_map.mp m
    have := List.lookup_eq_none_iff.mp el p mp
    simp [ep] at this
theorem c_heard (x : DFacts h D) (f : h.lk = []) (c : Com D) : run T (d + 4) 58 [.ref D.a] h = .ok (.ref h.n) (h.push (.lst D.heard)) := by
  have kl : (D.rds.map (·.1)).length ≤ 9000 := by
    have := c.rl
    have a : (D.rds.map (·.1)).length ≤ D.str.length := by
      have p := c.nd.length_le_of_subset (l₂ := List.range D.str.length) fun k m => List.mem_range.mpr (c.keys k m)
      simpa using p
    have := c.n
    omega
  have hkl : D.hk.length ≤ 9000 := by
    rw [DS.hk, (sortN_perm _).length_eq]
    exact kl
  have nl : ∀ (h : Hm), newL [] h = .ok (.ref h.n) (h.push (.lst [])) := fun h => newL_eq (by decide)
  obtain ⟨h3, e3⟩ : ∃ h3, h3 = ((({ h with lo := h.n } : Hm).push (.lst [])).push (.lst (D.rds.map fun e => pairW D.p.hs e.1))).push (.lst (D.hk.map (pairW D.p.hs))) := ⟨_, rfl⟩
  have n3 : h3.n = h.n + 3 := by rw [e3]; rfl
  have g3 : ∀ a, a < h.n → h3.g a = h.g a := fun a q => by
    rw [e3, Hm.push_lt (by simp; omega), Hm.push_lt (by simp; omega), Hm.push_lt (by simpa using q)]
  let I : List Nat → List (Option W) → Hm → Prop := fun ys σ h' => ∃ l2 l3 l4 done, σ = [some (.ref D.a), some (.ref h.n), l2, l3, l4] ∧ done ++ ys = D.hk ∧ h'.g h.n = some (.lst (done.map (heardW D))) ∧ (∀ a, a ≠ h.n → h'.g a = h3.g a) ∧ h'.n = h3.n ∧ h'.lo = h.n ∧ h'.lk = []
  have hI : I D.hk [some (.ref D.a), some (.ref h.n), none, none, none] h3 := ⟨none, none, none, [], rfl, rfl, by rw [e3]; simp [Hm.push_g], fun a _ => rfl, rfl, by rw [e3]; rfl, by rw [e3]; exact f⟩
  obtain ⟨σ', h', e, ⟨l2, l3, l4, done, rfl, q1, q2, q3, q4, q5, q6⟩⟩ := forL_ex (gd := [(h.n + 2, D.hk.map (pairW D.p.hs))]) (k := pairW D.p.hs) (f := fun x σ h => match store (.row [2, 3]) x σ h with
      | some σ => evSs (T.cf (run T (d + 3))) hdB σ h
      | none => .st) I (fun ys σ h' i => by
        obtain ⟨l2, l3, l4, done, rfl, q1, q2, q3, q4, q5, q6⟩ := i
        exact stays_one (by rw [q3 _ (by omega), e3]; simp [Hm.push_g])) (fun k ys σ h' i => by
        obtain ⟨l2, l3, l4, done, rfl, q1, q2, q3, q4, q5, q6⟩ := i
        have mk : k ∈ D.rds.map (·.1) := (sortN_perm _).mem_iff.mp (show k ∈ D.hk by rw [← q1]; simp)
        obtain ⟨s, r, ms, er, el⟩ := key_get c mk
        have sb := (c.sb _ _ ms).1
        have so := ss_ok sb
        have ess : s.ss = r.ss := by simp [Stm.ss, er]
        have ecl : s.rcl = r.cl := by simp [Stm.rcl, er]
        have gg : ∀ a, a < h.n → h'.g a = h.g a := fun a z => (q3 a (by omega)).trans (g3 a z)
        have xr := Stm.rdr (x.s s (List.mem_of_getElem? ms)) er
        have rr := RdS.rowf xr
        have rf := Has.reader (r := r) xr.tail
        have rf' : RFacts h' r := ⟨(gg _ rf.la).trans rf.a, (gg _ rf.lsg).trans rf.sg, (gg _ rf.led).trans rf.ed, by have := rf.la; omega, by have := rf.lsg; omega, by have := rf.led; omega, rf.n1, rf.n2, rf.n3⟩
        have t1 : run T (d + 3) 158 [.ref r.a] h' = .ok (.str (txt r.ss)) h' := c_text rf' (by rw [← ess]; exact so.1) (by rw [← ess]; have := so.2; unfold line; omega)
        have t2 : run T (d + 3) 159 [.ref r.a] h' = .ok (.bl r.cl) h' := c_ended rf'
        have xa := (gg _ x.la).trans x.a
        have xd := (gg _ x.lrd).trans x.rdd
        have xw := (gg _ rr.2).trans rr.1
        have lr := look_rds (hs := D.p.hs) (k := k) D.rds
        rw [el] at lr
        have hw : heardW D k = .tup [.int D.p.hs, .int k, .str (txt r.ss), .bl r.cl] := by
          unfold heardW
          rw [ms, ← ess, ← ecl]
        have dl : done.length < line := by
          have := congrArg List.length q1
          simp at this
          unfold line
          omega
        have sl : setL h' h.n (done.map (heardW D) ++ [heardW D k]) .non = .ok .non (h'.put h.n (.lst (done.map (heardW D) ++ [heardW D k]))) := u_setL (by omega) (by simp; omega)
        refine ⟨[some (.ref D.a), some (.ref h.n), some (.int D.p.hs), some (.int k), some (.ref r.a)], h'.put h.n (.lst (done.map (heardW D) ++ [heardW D k])), ?_, _, _, _, done ++ [k], rfl, by rw [← q1]; simp, by simp, fun a z => (Hm.put_ne z).trans (q3 a z), q4, q5, q6⟩
        rw [hw] at sl ⊢
        simp [pairW, store_row, setSlots, hdB, u_fldW, xa, u_subR, xd, u_dgetR, keysOf, keyOf, lr, xw, u_kindR, q2, rf'.a, t1, t2, u_app, sl]) hI
  have dn : done = D.hk := by simpa using q1
  rw [dn] at q2
  have eb : P.b_Desk_heard = .of [.set (.one 1) (.lst .nil), .for (.row [2, 3]) (.val (.bi .sorted (.of [.bi .list (.of [.attr (.loc 0) 22])]))) hdB, .ret (.loc 1)] := rfl
  refine run_pure_new (a := h.n) (Lib1.f58 (T := T)) rfl rfl ?_ (Nat.le_refl _) ?_
  · have na : D.a ≠ h.n := by have := x.la; omega
    have nr : D.rdd ≠ h.n := by have := x.lrd; omega
    have kv : (rdsW D.p.hs D.rds).map (fun kv => W.tup (kv.1.map wOf)) = D.rds.map fun e => pairW D.p.hs e.1 := by
      unfold rdsW
      rw [List.map_map]
      rfl
    have sw : ∀ h2 : Hm, sortW h2 (D.rds.map fun e => pairW D.p.hs e.1) = some (D.hk.map (pairW D.p.hs)) := fun h2 => by
      have := sortW_pairs (h := h2) (hs := D.p.hs) kl
      rw [List.map_map] at this
      exact this
    have i3 : h3.g (h.n + 1 + 1) = some (.lst (D.hk.map (pairW D.p.hs))) := by rw [e3]; simp [Hm.push_g]
    have e' : forL [(h.n + 1 + 1, D.hk.map (pairW D.p.hs))] (fun x σ h => match store (.row [2, 3]) x σ h with
      | some σ => evSs (T.cf (run T (d + 3))) hdB σ h
      | none => .st) (D.hk.map (pairW D.p.hs)) [some (.ref D.a), some (.ref h.n), none, none, none] h3 = .nx [some (.ref D.a), some (.ref h.n), l2, l3, l4] h' := e
    simp [P.F_Desk_heard, eb, startW, nl, evS_for, u_fldW, Hm.push_g, na, x.a, u_listR, nr, x.rdd, kv, u_sorted, u_rdL, sw, toLock_ref, u_planR, u_planLR, ← e3, i3, DS.heard]
    refine (congrArg (fun z : F => (z.seq fun σ h => ((match σ[1]? with
      | some (some w) => R.ok w h
      | x => R.st).fl σ fun w h => F.rt w h).seq fun σ h => F.nx σ h).out.lst) e').trans ?_
    simp [q2]
  · exact olds_map fun k _ => by
      unfold heardW
      cases D.str[k]? with
      | none => rfl
      | some s => rfl
end
end Mn
end
section
set_option Elab.async false
set_option linter.all false
set_option maxRecDepth 100000
set_option maxHeartbeats 4000000
namespace Mn
open PySem L2
section
variable {T : Tx} [Lib1 T] {d : Nat} {h : Hm} {D : DS}
theorem c_stand0 (x : DFacts h D) {k : Nat} {s : Stm} (m : D.str[k]? = some s) (q : s.w.kn = s.w.ps.length) : run T (d + 4) 57 [.ref D.a, .int k] h = .ok (.str (if s.w.cl = true then Str.ofString "done" else Str.ofString "idle")) h := by
  have xs := x.s s (List.mem_of_getElem? m)
  have xw := (Stm.wr xs).writer
  have b1 : run T (d + 3) 54 [.ref D.a, .int k] h = .ok (.ref s.ra) h := c_row_of x m
  have b2 : run T (d + 3) 43 [.ref s.w.a] h = _ := c_is_done xw
  have b3 : run T (d + 3) 44 [.ref s.w.a] h = _ := c_left xw
  have z : ((s.w.ps.length : Int) - s.w.kn = 0) = True := eq_true (by omega)
  have z2 : (s.w.ps.length : Int) - s.w.kn = 0 := by omega
  rw [z2] at b3
  rw [run_fn (Lib1.f57 (T := T)) rfl rfl]
  cases c : s.w.cl with
  | true => 
    rw [c] at b2
    simp [z] at b2
    simp [P.F_Desk_standing, P.b_Desk_standing, startW, u_fldW, x.a, b1, (Stm.row xs).1, xw.a, b2]
  | false =>
    rw [c] at b2
    simp at b2
    simp [P.F_Desk_standing, P.b_Desk_standing, startW, u_fldW, x.a, b1, (Stm.row xs).1, xw.a, b2, b3]
theorem c_stand1 (x : Has h D.cells) (f : Free h) (hs : D.p.hs < 32) {k : Nat} {s : Stm} (m : D.str[k]? = some s) (q : s.w.kn < s.w.ps.length) : ∃ h' y, run T (d + 4) 57 [.ref D.a, .int k] h = .ok (.tup [.str (Str.ofString "way"), .tup [.int D.p.hs], .ref y]) h' ∧ Fr [] h h' ∧ h'.g y = some (.lst [.tup [.int D.p.hs, .int 0]]) := by
  have x0 := x.desk
  have xs := x0.s s (List.mem_of_getElem? m)
  have xw := (Stm.wr xs).writer
  have xp := x0.p.post
  have b1 : run T (d + 3) 54 [.ref D.a, .int k] h = .ok (.ref s.ra) h := c_row_of x0 m
  have b2 : run T (d + 3) 43 [.ref s.w.a] h = _ := c_is_done xw
  have b3 : run T (d + 3) 44 [.ref s.w.a] h = _ := c_left xw
  have z : ((s.w.ps.length : Int) - s.w.kn = 0) = False := eq_false (by omega)
  simp [z] at b2
  obtain ⟨h1, mm, kk, e1, f1, g1, g2, l1, l2⟩ := c_map_now (T := T) (d := d) xp f
  have u1 := Upd.of_fr x f1
  have x1 := u1.has.desk
  have fr1 := u1.free f
  have b4 : run T (d + 3) 143 [.ref D.p.a] h1 = .ok (.int D.p.hs) h1 := c_number x1.p.post
  obtain ⟨h2, y, e2, f2, y1, y2, y3⟩ := c_way (T := T) (d := d) g1 g2 l1 l2 (by rw [fr1.lo]; exact Nat.zero_le _) fr1.lk
  refine ⟨h2, y, ?_, f1.trans f2 (fun b m => by cases m), y3⟩
  have xpa := xp.a
  have xpa1 := x1.p.post.a
  have x1a := x1.a
  have rw1 := (Stm.row (x1.s s (List.mem_of_getElem? m))).1
  simp only [oPost] at xpa xpa1
  rw [run_fn (Lib1.f57 (T := T)) rfl rfl]
  simp [P.F_Desk_standing, P.b_Desk_standing, startW, u_fldW, x0.a, b1, (Stm.row xs).1, xw.a, b2, b3, z, xpa, e1, x1a, xpa1, b4, rw1, e2]
structure TS (hs : Nat) (s : Stm) (u : Str) (b : Bool) : Prop where
  fl : s.w.pp.flatten = u.cps.toList.map sg
  cs : ∀ c, c ∈ u.cps.toList → c ∈ codes
  cl : s.w.cl = b
  ne : s.w.cl = false → ∀ p, p ∈ s.w.pp → p ≠ []
  nc : s.w.cl = true → s.w.pp ≠ [] ∧ ∀ p, p ∈ s.w.pp.dropLast → p ≠ []
end
end Mn
end
section
set_option Elab.async false
set_option linter.all false
set_option maxRecDepth 100000
set_option maxHeartbeats 4000000
namespace T69
open PySem L2 Mn
theorem log_lt {n : Nat} (q : n < 2 ^ 200) : n.log2 < 1000 := by
  by_cases z : n = 0
  · subst z
    decide
  · have := (Nat.log2_lt z (k := 200)).mpr q
    omega
theorem mul_ok {h : Hm} {i j : Int} (hi : i.natAbs < 2 ^ 200) (hj : j.natAbs < 2 ^ 200) : binW .mul (.int i) (.int j) h = .ok (.int (i * j)) h := w_mul (by
  have a := log_lt hi
  have b := log_lt hj
  omega)
section
variable {d : Nat} {h : Hm}
theorem c_mixed {cell : Int} {k : Nat} (hk : k < 1000) : ∃ i : Int, run tx (d + 1) 301 [.int cell, .int k] h = .ok (.int i) h := by
  obtain ⟨p, ep⟩ : ∃ p : Int, p = 2305843009213693951 := ⟨_, rfl⟩
  obtain ⟨x0, e0⟩ : ∃ x0 : Int, x0 = cell % p := ⟨_, rfl⟩
  have b0 : 0 ≤ x0 ∧ x0 < p := by rw [e0]; exact ⟨Int.emod_nonneg _ (by omega), Int.emod_lt_of_pos _ (by omega)⟩
  obtain ⟨x1, e1⟩ : ∃ x1 : Int, x1 = ((x0 + ((k : Int) + 3) * 1000000007) * 1152921504606846883) % p := ⟨_, rfl⟩
  have b1 : 0 ≤ x1 ∧ x1 < p := by rw [e1]; exact ⟨Int.emod_nonneg _ (by omega), Int.emod_lt_of_pos _ (by omega)⟩
  obtain ⟨x2, e2⟩ : ∃ x2 : Int, x2 = (x1 * x1) % p := ⟨_, rfl⟩
  have b2 : 0 ≤ x2 ∧ x2 < p := by rw [e2]; exact ⟨Int.emod_nonneg _ (by omega), Int.emod_lt_of_pos _ (by omega)⟩
  obtain ⟨x3, e3⟩ : ∃ x3 : Int, x3 = ((x2 + k) * 576460752303423433) % p := ⟨_, rfl⟩
  have b3 : 0 ≤ x3 ∧ x3 < p := by rw [e3]; exact ⟨Int.emod_nonneg _ (by omega), Int.emod_lt_of_pos _ (by omega)⟩
  have pp : 0 < p := by omega
  have m0 : ∀ h2 : Hm, binW .mod (.int cell) (.int p) h2 = .ok (.int x0) h2 := fun h2 => by rw [e0]; exact w_mod pp
  have m1 : ∀ h2 : Hm, binW .mul (.int ((k : Int) + 3)) (.int 1000000007) h2 = .ok (.int (((k : Int) + 3) * 1000000007)) h2 := fun h2 => mul_ok (by omega) (by omega)
  have m2 : ∀ h2 : Hm, binW .mul (.int (x0 + ((k : Int) + 3) * 1000000007)) (.int 1152921504606846883) h2 = .ok (.int ((x0 + ((k : Int) + 3) * 1000000007) * 1152921504606846883)) h2 := fun h2 => mul_ok (by omega) (by omega)
  have m3 : ∀ h2 : Hm, binW .mod (.int ((x0 + ((k : Int) + 3) * 1000000007) * 1152921504606846883)) (.int p) h2 = .ok (.int x1) h2 := fun h2 => by rw [e1]; exact w_mod pp
  have m4 : ∀ h2 : Hm, binW .mul (.int x1) (.int x1) h2 = .ok (.int (x1 * x1)) h2 := fun h2 => mul_ok (by omega) (by omega)
  have m5 : ∀ h2 : Hm, binW .mod (.int (x1 * x1)) (.int p) h2 = .ok (.int x2) h2 := fun h2 => by rw [e2]; exact w_mod pp
  have m6 : ∀ h2 : Hm, binW .mul (.int (x2 + k)) (.int 576460752303423433) h2 = .ok (.int ((x2 + k) * 576460752303423433)) h2 := fun h2 => mul_ok (by omega) (by omega)
  have m7 : ∀ h2 : Hm, binW .mod (.int ((x2 + k) * 576460752303423433)) (.int p) h2 = .ok (.int x3) h2 := fun h2 => by rw [e3]; exact w_mod pp
  have m8 : ∀ h2 : Hm, binW .mul (.int x3) (.int x3) h2 = .ok (.int (x3 * x3)) h2 := fun h2 => mul_ok (by omega) (by omega)
  have m9 : ∀ h2 : Hm, binW .mod (.int (x3 * x3)) (.int p) h2 = .ok (.int (x3 * x3 % p)) h2 := fun h2 => w_mod pp
  have m10 : ∀ h2 : Hm, binW .fdiv (.int (x3 * x3 % p)) (.int 7) h2 = .ok (.int (x3 * x3 % p / 7)) h2 := fun h2 => w_fdiv ⟨by omega, by decide⟩
  refine ⟨x3 * x3 % p / 7, run_pure_old f301 rfl rfl ?_ rfl⟩
  simp only [ep] at m0 m3 m5 m7 m9 m10 ⊢
  simp [F__law_mixed, b__law_mixed, startW, m0, m1, m2, m3, m4, m5, m6, m7, m8, m9, m10]
theorem enum_g {ι : Type} {g : ι → W} : ∀ (l : List ι) (j : Nat), enumL j (l.map g) = (l.zipIdx j).map fun p => W.tup [.int p.2, g p.1]
  | [], _ => rfl
  | s :: l, j => by
    have ih := enum_g (g := g) l (j + 1)
    rw [List.zipIdx_cons, List.map_cons, List.map_cons, ← ih]
    rfl
def drB : Sms := .of [.ite (.cmp .ge (.bi .abs (.of [.loc 0])) (.bin .pow (.con (.int 10)) (.con (.int 18)))) (.of [.expr (.bm .append (.loc 2) (.of [.bin .mod (.loc 3) (.loc 5)])), .set (.one 3) (.bin .fdiv (.loc 3) (.loc 5))]) (.of [.expr (.bm .append (.loc 2) (.of [.bin .mod (.call 301 (.of [.loc 0, .loc 4])) (.loc 5)]))])]
theorem c_drB {cell rest : Int} {bl k b : Nat} {row : List Nat} (hk : k < 1000) (hb : 0 < b) (hb2 : b < 1000) (hr : row.length < 1000) (hlo : h.lo ≤ h.n) : ∃ (rest' : Int) (r : Nat), r < b ∧ evSs (tx.cf (run tx (d + 1))) drB [some (.int cell), some (.ref bl), some (.ref h.n), some (.int rest), some (.int k), some (.int b)] (h.push (.lst (nts row))) = .nx [some (.int cell), some (.ref bl), some (.ref h.n), some (.int rest'), some (.int k), some (.int b)] (h.push (.lst (nts (row ++ [r])))) := by
  have pw : ∀ h2 : Hm, binW .pow (.int 10) (.int 18) h2 = .ok (.int 1000000000000000000) h2 := fun h2 => rfl
  have bi : (0 : Int) < b := by omega
  have app : ∀ r : Nat, bm .append (.ref h.n) [.int r] (h.push (.lst (nts row))) = .ok .non (h.push (.lst (nts (row ++ [r])))) := fun r => by
    rw [app_new rfl hlo (by simpa using hr)]
    simp
  obtain ⟨ab, eab⟩ : ∃ ab : Int, ab = if cell < 0 then -cell else cell := ⟨_, rfl⟩
  by_cases q : 1000000000000000000 ≤ ab
  · have e1 : rest % (b : Int) = ((rest % (b : Int)).toNat : Int) := by
      have := Int.emod_nonneg rest (b := (b : Int)) (by omega)
      omega
    have e2 : (rest % (b : Int)).toNat < b := by
      have := Int.emod_lt_of_pos rest bi
      omega
    have m1 : ∀ h2 : Hm, binW .mod (.int rest) (.int b) h2 = .ok (.int ((rest % (b : Int)).toNat : Int)) h2 := fun h2 => by rw [← e1]; exact w_mod bi
    have m2 : ∀ h2 : Hm, binW .fdiv (.int rest) (.int b) h2 = .ok (.int (rest / b)) h2 := fun h2 => w_fdiv ⟨bi, by have := log_lt (n := (b : Int).natAbs) (by omega); omega⟩
    have a1 := app (rest % (b : Int)).toNat
    revert m1 a1 e2
    generalize (rest % (b : Int)).toNat = r
    intro e2 m1 a1
    refine ⟨rest / b, r, e2, ?_⟩
    simp [drB, ← eab, pw, q, m1, m2, u_kindR, Hm.push_g, a1]
  · obtain ⟨i, em⟩ := c_mixed (d := d) (h := h.push (.lst (nts row))) (cell := cell) hk
    have e1 : i % (b : Int) = ((i % (b : Int)).toNat : Int) := by
      have := Int.emod_nonneg i (b := (b : Int)) (by omega)
      omega
    have e2 : (i % (b : Int)).toNat < b := by
      have := Int.emod_lt_of_pos i bi
      omega
    have m1 : ∀ h2 : Hm, binW .mod (.int i) (.int b) h2 = .ok (.int ((i % (b : Int)).toNat : Int)) h2 := fun h2 => by rw [← e1]; exact w_mod bi
    have a1 := app (i % (b : Int)).toNat
    revert m1 a1 e2
    generalize (i % (b : Int)).toNat = r
    intro e2 m1 a1
    have c301 : (tx.cf (run tx (d + 1))).has 301 = true := rfl
    refine ⟨rest, r, e2, ?_⟩
    simp [drB, ← eab, pw, q, m1, c301, em, u_kindR, Hm.push_g, a1]
def Drawn (row bs : List Nat) : Prop := row.length = bs.length ∧ ∀ i a b : Nat, row[i]? = some a → bs[i]? = some b → a < b
theorem Drawn.snoc {row bs : List Nat} {a b : Nat} (x : Drawn row bs) (q : a < b) : Drawn (row ++ [a]) (bs ++ [b]) := by
  refine ⟨by simp [x.1], fun i y z h1 h2 => ?_⟩
  by_cases l : i < row.length
  · rw [List.getElem?_append_left l] at h1
    rw [List.getElem?_append_left (by rw [← x.1]; exact l)] at h2
    exact x.2 i y z h1 h2
  · rw [List.getElem?_append_right (by omega)] at h1
    rw [List.getElem?_append_right (by rw [← x.1]; omega), ← x.1] at h2
    have : i - row.length = 0 := by
      have := (List.getElem?_eq_some_iff.mp h1).1
      simp at this
      omega
    rw [this] at h1 h2
    simp at h1 h2
    omega
theorem c_drawn {cell : Int} {bl : Nat} {bs : List Nat} (hg : h.g bl = some (.lst (nts bs))) (hl : bl < h.n) (hb : ∀ b, b ∈ bs → 0 < b ∧ b < 1000) (hn : bs.length < 900) : ∃ row, Drawn row bs ∧ run tx (d + 2) 302 [.int cell, .ref bl] h = .ok (.ref h.n) (h.push (.lst (nts row))) := by
  obtain ⟨h0, e0⟩ : ∃ h0 : Hm, h0 = { h with lo := h.n } := ⟨_, rfl⟩
  have n0 : h0.n = h.n := by rw [e0]
  have g0 : h0.g = h.g := by rw [e0]
  have l0 : h0.lo = h.n := by rw [e0]
  let I : List (Nat × Nat) → List (Option W) → Hm → Prop := fun ys σ h' => ∃ rest l4 l5 row done, σ = [some (.int cell), some (.ref bl), some (.ref h.n), some (.int rest), l4, l5] ∧ h' = h0.push (.lst (nts row)) ∧ Drawn row done ∧ done ++ ys.map (·.1) = bs ∧ ∀ p, p ∈ ys → p.2 < 1000 ∧ p.1 ∈ bs
  have hI : I bs.zipIdx [some (.int cell), some (.ref bl), some (.ref h.n), some (.int (if cell < 0 then -cell else cell)), none, none] (h0.push (.lst [])) := ⟨_, none, none, [], [], rfl, rfl, ⟨rfl, fun i a b h1 _ => by simp at h1⟩, by simp, fun p mp => by
    have a := List.mem_zipIdx mp
    refine ⟨by omega, ?_⟩
    rw [a.2.2]
    exact List.getElem_mem _⟩
  obtain ⟨σ', h', e, ⟨rest, l4, l5, row, done, rfl, eh, dr, dn, _⟩⟩ := forL_ex (gd := [(bl, nts bs)]) (k := fun p : Nat × Nat => W.tup [.int p.2, .int p.1]) (f := fun x σ h => match store (.row [4, 5]) x σ h with
      | some σ => evSs (tx.cf (run tx (d + 1))) drB σ h
      | none => .st) I (fun ys σ h' i => by
        obtain ⟨rest, l4, l5, row, done, rfl, rfl, _⟩ := i
        exact stays_one (by rw [Hm.push_lt (by rw [n0]; exact hl), g0]; exact hg)) (fun p ys σ h' i => by
        obtain ⟨rest, l4, l5, row, done, rfl, rfl, dr, dn, pp⟩ := i
        have pb := pp p List.mem_cons_self
        have bb := hb p.1 pb.2
        have rl : row.length < 1000 := by
          have := congrArg List.length dn
          have := dr.1
          simp at *
          omega
        obtain ⟨rest', r, rb, ee⟩ := c_drB (d := d) (h := h0) (cell := cell) (rest := rest) (bl := bl) (k := p.2) (b := p.1) (row := row) pb.1 bb.1 bb.2 rl (by rw [l0, n0]; exact Nat.le_refl _)
        rw [n0] at ee
        exact ⟨_, _, ee, rest', _, _, row ++ [r], done ++ [p.1], rfl, rfl, dr.snoc rb, by simpa using dn, fun q mq => pp q (List.mem_cons_of_mem _ mq)⟩) hI
  have dn : done = bs := by simpa using dn
  rw [dn] at dr
  refine ⟨row, dr, run_pure_new (a := h.n) f302 rfl rfl ?_ (Nat.le_refl _) (olds_nts _)⟩
  have eb : b__law_drawn = .of [.set (.one 2) (.lst .nil), .set (.one 3) (.bi .abs (.of [.loc 0])), .for (.row [4, 5]) (.enum (.loc 1)) drB, .ret (.loc 2)] := rfl
  have nl : newL [] h0 = .ok (.ref h.n) (h0.push (.lst [])) := by rw [← n0]; exact newL_eq (by decide)
  have ne : bl ≠ h0.n := by omega
  have eg : enumL 0 (nts bs) = bs.zipIdx.map fun p => W.tup [.int p.2, .int p.1] := enum_g bs 0
  rw [← e0]
  simp [F__law_drawn, eb, startW, nl, evS_for, u_planLR, Hm.push_g, ne, g0, hg, eg]
  refine (congrArg (fun z : F => (z.seq fun σ h => ((match σ[2]? with
      | some (some w) => R.ok w h
      | x => R.st).fl σ fun w h => F.rt w h).seq fun σ h => F.nx σ h).out.lst) e).trans ?_
  rw [eh]
  simp [← n0]
end
end T69
end
section
set_option Elab.async false
set_option linter.all false
set_option maxRecDepth 100000
set_option maxHeartbeats 4000000
namespace T69
open PySem L2 Mn
def SA : Str := Str.ofString " abcdefghijklmnopqrstuvwxyzABC0123456789.,:;!?()[]{}<>~^_-+*/=|@#$&'"
def SB1 : Str := SA ++ Str.ofString "\""
def SG : Str := SB1 ++ Str.ofString "\n"
def SN : Nat := SG.cps.toList.length
theorem sn_small : 0 < SN ∧ SN < 1000 := by decide +kernel
theorem sg_codes : ∀ c ∈ SG.cps.toList, c ∈ codes := by decide +kernel
theorem sg_len : SG.length = SN := by decide +kernel
section
variable {h : Hm}
theorem add1 : binW .add (.str SA) (.str (Str.ofString "\"")) h = .ok (.str SB1) h := by
  show (if SA.length + (Str.ofString "\"").length ≤ line then R.ok (W.str SB1) h else .st) = _
  exact if_pos (by decide +kernel)
theorem add2 : binW .add (.str SB1) (.str (Str.ofString "\n")) h = .ok (.str SG) h := by
  show (if SB1.length + (Str.ofString "\n").length ≤ line then R.ok (W.str SG) h else .st) = _
  exact if_pos (by decide +kernel)
theorem len_sg : bi .len [.str SG] h = .ok (.int SN) h := by
  rw [u_len]
  have : lenW (.str SG) h = some SN := by
    show (if SG.length ≤ line then some SG.length else none) = _
    rw [sg_len, if_pos (by have := sn_small; unfold line; omega)]
  rw [this]
theorem sub_sg {n : Nat} (q : n < SN) : Mn.sub (.str SG) (.int n) h = some (.str (ch (SG.cps.toList.getD n 0))) := by
  show (if SG.length ≤ line then ((ixn SG.cps.toList.length n).bind fun j => SG.cps.toList[j]?).map fun c => W.str ⟨#[c]⟩ else none) = _
  rw [sg_len, if_pos (by have := sn_small; unfold line; omega)]
  have q' : n < SG.cps.toList.length := q
  have e3 : ixn SG.cps.toList.length n = some n := by
    unfold ixn
    rw [if_pos (by omega), if_pos (by omega)]
    rfl
  rw [e3]
  show (SG.cps.toList[n]?).map _ = _
  rw [List.getElem?_eq_getElem q', List.getD_eq_getElem?_getD, List.getElem?_eq_getElem q']
  rfl
theorem join_chs {b : Nat} {cs : List Nat} (hb : h.g b = some (.lst (cs.map fun c => W.str (ch c)))) (hl : cs.length ≤ line) : bm .join (.str (Str.ofString "")) [.ref b] h = .ok (.str ⟨cs.toArray⟩) h := by
  have e1 : (seqW (.ref b) h).bind strsL = some (cs.map ch) := by
    show (match h.g b with
      | some (.lst xs) => some xs
      | _ => none).bind strsL = _
    rw [hb]
    exact strsL_map _ cs
  show (match (seqW (.ref b) h).bind strsL with
    | some ys => if (ys.map Str.length).sum + ys.length * (Str.ofString "").length ≤ line then R.ok (W.str (Txt.join (Str.ofString "") ys)) h else .st
    | none => .st) = _
  rw [e1]
  dsimp only
  have e4 : ((cs.map ch).map Str.length).sum = cs.length := by
    rw [List.map_map]
    clear hb e1 hl
    induction cs with
    | nil => rfl
    | cons x xs ih =>
      simp only [List.map_cons, List.sum_cons, List.length_cons, ih]
      show 1 + _ = _
      omega
  rw [e4, show (Str.ofString "").length = 0 by decide +kernel, Nat.mul_zero, Nat.add_zero, if_pos hl, join_ch]
end
section
variable {d : Nat} {h : Hm}
theorem c_written {cell : Int} : ∃ u : Str, (∀ c, c ∈ u.cps.toList → c ∈ codes) ∧ u.cps.size ≤ 30 ∧ run tx (d + 3) 303 [.int cell] h = .ok (.str u) h := by
  obtain ⟨h0, e0⟩ : ∃ h0 : Hm, h0 = { h with lo := h.n } := ⟨_, rfl⟩
  obtain ⟨r1, dr1, eq1⟩ := c_drawn (d := d) (h := h0.push (.lst [.int 31])) (cell := cell) (bl := h0.n) (bs := [31]) (by simp) (by simp) (by simp) (by simp)
  obtain ⟨m, rfl⟩ : ∃ m, r1 = [m] := by
    have := dr1.1
    cases r1 with
    | nil => simp at this
    | cons a r =>
      cases r with
      | nil => exact ⟨a, rfl⟩
      | cons b r => simp at this
  have hm : m < 31 := dr1.2 0 m 31 rfl rfl
  obtain ⟨h1, e1⟩ : ∃ h1, h1 = ((((h0.push (.lst [.int 31])).push (.lst (nts [m]))).push (.lst [.int SN])).push (.lst (nts (List.replicate m SN)))) := ⟨_, rfl⟩
  have n1 : h1.n = h0.n + 4 := by rw [e1]; rfl
  have sn := sn_small
  obtain ⟨r2, dr2, eq2⟩ := c_drawn (d := d) (h := h1) (cell := cell + 1) (bl := h0.n + 3) (bs := List.replicate m SN) (by rw [e1]; simp [Hm.push_g]) (by omega) (fun b mb => by
    have := List.eq_of_mem_replicate mb
    omega) (by simp; omega)
  have r2l : r2.length = m := by rw [dr2.1]; simp
  have r2b : ∀ i, i ∈ r2 → i < SN := fun i mi => by
    obtain ⟨k, hk⟩ := List.getElem?_of_mem mi
    have lk := (List.getElem?_eq_some_iff.mp hk).1
    exact dr2.2 k i SN hk (by rw [List.getElem?_replicate, if_pos (by omega)])
  refine ⟨⟨(r2.map fun i => SG.cps.toList.getD i 0).toArray⟩, fun c mc => ?_, by simp; omega, run_pure_old f303 rfl rfl ?_ rfl⟩
  · obtain ⟨i, mi, ei⟩ := List.mem_map.mp (show c ∈ r2.map fun i => SG.cps.toList.getD i 0 from mc)
    have q : i < SG.cps.toList.length := r2b i mi
    rw [← ei, List.getD_eq_getElem?_getD, List.getElem?_eq_getElem q]
    exact sg_codes _ (List.getElem_mem q)
  · have eb : b__law_written = .of [.set (.one 1) (.sub (.call 302 (.of [.loc 0, .lst (.of [.con (.int 31)])])) (.con (.int 0))), .set (.one 2) (.bin .add (.bin .add (.con (.str SA)) (.con (.str (Str.ofString "\"")))) (.con (.str (Str.ofString "\n")))), .set (.one 3) (.call 302 (.of [.bin .add (.loc 0) (.con (.int 1)), .bin .mul (.lst (.of [.bi .len (.of [.loc 2])])) (.loc 1)])), .ret (.bm .join (.con (.str (Str.ofString ""))) (.of [.comp (.sub (.loc 2) (.loc 4)) (.one 4) (.val (.loc 3)) (.con (.bl true))]))] := rfl
    have c302 : (tx.cf (run tx (d + 2))).has 302 = true := rfl
    have nl1 : ∀ (y : W) (h : Hm), newL [y] h = .ok (.ref h.n) (h.push (.lst [y])) := fun y h => newL_eq (by simp)
    have ml : binW .mul (.ref (h0.n + 2)) (.int m) (((h0.push (.lst [.int 31])).push (.lst (nts [m]))).push (.lst [.int SN])) = .ok (.ref (h0.n + 3)) h1 := by
      show (match (((h0.push (.lst [.int 31])).push (.lst (nts [m]))).push (.lst [.int SN])).g (h0.n + 2) with
        | some (.lst xs) => if -(2 ^ 63) ≤ (m : Int) ∧ (m : Int) < 2 ^ 63 ∧ xs.length * (m : Int).toNat ≤ line then new (.lst (List.replicate (m : Int).toNat xs).flatten) _ else .st
        | _ => .st) = _
      rw [show (((h0.push (.lst [.int 31])).push (.lst (nts [m]))).push (.lst [.int SN])).g (h0.n + 2) = some (.lst [.int SN]) by simp [Hm.push_g]]
      dsimp only
      rw [if_pos ⟨by omega, by omega, by simp [line]; omega⟩, e1]
      have : (List.replicate (m : Int).toNat [W.int SN]).flatten = nts (List.replicate m SN) := by
        rw [Int.toNat_natCast]
        clear eq1 eq2 dr1 dr2 hm e1 r2l
        induction m with
        | zero => rfl
        | succ m ih =>
          rw [List.replicate_succ, List.replicate_succ, List.flatten_cons, ih]
          rfl
      rw [this]
      rfl
    have cp : evE (tx.cf (run tx (d + 2))) (.comp (.sub (.loc 2) (.loc 4)) (.one 4) (.val (.loc 3)) (.con (.bl true))) [some (.int cell), some (.int m), some (.str SG), some (.ref h1.n), none] (h1.push (.lst (nts r2))) = .ok (.ref (h1.push (.lst (nts r2))).n) ((h1.push (.lst (nts r2))).push (.lst (r2.map fun i => W.str (ch (SG.cps.toList.getD i 0))))) := by
      refine comp_map (k := fun i : Nat => W.int i) (gd := [(h1.n, nts r2)]) ?_ ?_ (stays_one (by simp)) (fun i mi => ⟨_, rfl, by simp, ?_⟩) (by unfold line; omega)
      · simp [toLock_ref]
      · simp [u_planR, u_planLR]
        rfl
      · simp [sub_sg (r2b i mi)]
    have jn := join_chs (h := (h1.push (.lst (nts r2))).push (.lst (r2.map fun i => W.str (ch (SG.cps.toList.getD i 0))))) (b := h1.n + 1) (cs := r2.map fun i => SG.cps.toList.getD i 0) (by simp [Hm.push_g]) (by simp; unfold line; omega)
    rw [← e0]
    simp only [nts_cons, nts_nil] at eq1 ml e1
    simp [-q_evE_comp, F__law_written, eb, startW, c302, nl1, eq1, u_subR, Hm.push_g, ixn, add1, add2, len_sg, ml, eq2]
    rw [cp]
    simp only [R.bind_ok, Hm.push_n]
    rw [jn]
    simp
end
end T69
end
section
set_option Elab.async false
set_option linter.all false
set_option maxRecDepth 100000
set_option maxHeartbeats 4000000
namespace Mn
open PySem L2
section
variable {h : Hm}
theorem eq_same {a b : Nat} {n : Nat} {ds : List PyData} {xs ys : List W} (ha : h.g a = some (.lst xs)) (hb : h.g b = some (.lst ys)) (dx : dats 9999 h xs = some ds) (dy : dats 9999 h ys = some ds) (sh : SeqAt.shaped (.list ds) = true) : eqW h (.ref a) (.ref b) = some true := by
  have e : ∀ c zs, h.g c = some (.lst zs) → dats 9999 h zs = some ds → dat 10000 h (.ref c) = some (.list ds) := fun c zs h1 h2 => by
    show (match h.g c with
      | some (.lst xs) => (dats 9999 h xs).map PyData.list
      | _ => none) = _
    rw [h1]
    dsimp only
    rw [h2]
    rfl
  have cl : (PyData.list ds).canLay0 = true := by
    unfold SeqAt.shaped at sh
    simp only [Bool.and_eq_true] at sh
    exact sh.1
  show (match dat 10000 h (.ref a), dat 10000 h (.ref b) with
    | some d, some e => if SeqAt.shaped d && SeqAt.shaped e then some (PyData.eqv d e) else none
    | _, _ => none) = _
  rw [e a xs ha dx, e b ys hb dy]
  dsimp only
  rw [sh]
  simp only [Bool.and_self, if_true]
  rw [SeqAt.eqv_refl _ cl]
theorem shaped_list {ι : Type} {g : ι → PyData} {l : List ι} (q : ∀ y, (g y).canLay0 = true ∧ (g y).depth ≤ 60) : SeqAt.shaped (.list (l.map g)) = true := by
  have a : PyData.canLayAll0 (l.map g) = true := by
    induction l with
    | nil => rfl
    | cons y l ih =>
      show ((g y).canLay0 && PyData.canLayAll0 (l.map g)) = true
      rw [(q y).1, ih]
      rfl
  have b : PyData.depthAll (l.map g) ≤ 60 := by
    induction l with
    | nil => exact Nat.zero_le _
    | cons y l ih =>
      have := ih (by
        have := a
        rw [List.map_cons] at this
        exact (Bool.and_eq_true_iff.mp this).2)
      have z := (q y).2
      rw [List.map_cons, PyData.depthAll]
      omega
  unfold SeqAt.shaped
  simp only [Bool.and_eq_true, decide_eq_true_eq]
  refine ⟨a, ?_⟩
  rw [PyData.depth]
  omega
theorem eq_pairs {a b hs : Nat} {l : List Nat} (ha : h.g a = some (.lst (l.map (pairW hs)))) (hb : h.g b = some (.lst (l.map (pairW hs)))) (hl : l.length ≤ 9000) : eqW h (.ref a) (.ref b) = some true := by
  have d := dats_map (h := h) (k := pairW hs) (g := pairD hs) (c := 5) (ys := l) (n := 9999) (fun y _ m q => dat_pair q) (by omega)
  exact eq_same (n := 0) ha hb d d (shaped_list fun y => ⟨rfl, by simp [pairD, PyData.depth, PyData.depthAll]⟩)
theorem compL_fil {gd : List (Nat × List W)} {ι : Type} {f : W → Hm → R (Option W)} {k g : ι → W} {p : ι → Bool} (hs : stays h gd = true) : ∀ {ys : List ι}, (∀ y ∈ ys, f (k y) h = .ok (if p y = true then some (g y) else none) h) → compL gd f (ys.map k) h = .ok ((ys.filter p).map g) h
  | [], _ => by rw [List.map_nil, compL, if_pos hs]; rfl
  | y :: ys, hf => by
    rw [List.map_cons, compL, if_pos hs, hf y List.mem_cons_self]
    simp only [R.noex_ok, R.bind_ok]
    rw [compL_fil hs fun z hz => hf z (List.mem_cons_of_mem _ hz)]
    simp only [R.bind_ok]
    by_cases q : p y = true
    · simp [q]
    · simp [q]
theorem comp_fil {C : Cf} {e c : Ex} {t : Tg} {it : It} {σ : List (Option W)} {gd : List (Nat × List W)} {ι : Type} {ys : List ι} {k g : ι → W} {p : ι → Bool} (hl : toLock (evL C it σ h) = none) (hi : evI C it σ h = .ok ⟨ys.map k, gd⟩ h) (hs : stays h gd = true)
    (hf : ∀ y, y ∈ ys → ∃ σ', store t (k y) σ h = some σ' ∧ evT C c σ' h = .ok (p y) h ∧ evE C e σ' h = .ok (g y) h) (hn : ys.length ≤ line) : evE C (.comp e t it c) σ h = .ok (.ref h.n) (h.push (.lst ((ys.filter p).map g))) := by
  rw [q_evE_comp, hl]
  simp only [withLock_none, hi, R.bind_ok]
  rw [compL_fil (g := g) (p := p) hs (fun y m => by
    obtain ⟨σ', e1, e2, e3⟩ := hf y m
    simp only [e1, e2, R.bind_ok]
    cases q : p y with
    | true => simp [e3]
    | false => simp)]
  simp only [R.bind_ok]
  exact newL_eq (by
    rw [List.length_map]
    exact Nat.le_trans (List.length_filter_le _ _) hn)
end
end Mn
end
section
set_option Elab.async false
set_option linter.all false
set_option maxRecDepth 100000
set_option maxHeartbeats 4000000
namespace Mn
open PySem L2
structure TX (D : DS) (us : List Str) (bs : List Bool) : Prop where
  lu : us.length = D.str.length
  lb : bs.length = D.str.length
  t : ∀ (k : Nat) (s : Stm) (u : Str) (b : Bool), D.str[k]? = some s → us[k]? = some u → bs[k]? = some b → TS D.p.hs s u b
theorem cut_take {α : Type} (xs : List α) (n : Nat) : cut xs none (some (n : Int)) = xs.take n := by
  unfold cut
  have e : cutIx xs.length xs.length (some (n : Int)) = min n xs.length := by
    unfold cutIx
    simp
    omega
  rw [e]
  show (xs.drop 0).take (min n xs.length - 0) = _
  rw [List.drop_zero, Nat.sub_zero]
  by_cases q : n ≤ xs.length
  · rw [Nat.min_eq_left q]
  · rw [Nat.min_eq_right (by omega), List.take_of_length_le (by omega), List.take_of_length_le (by omega)]
theorem map_unsg {l : List Nat} (q : ∀ c, c ∈ l → c ∈ codes) : (l.map sg).map unsg = l := by
  rw [List.map_map]
  conv => rhs; rw [← List.map_id l]
  exact List.map_congr_left fun c m => unsg_sg c (q c m)
theorem str_ext {s t : Str} (q : s.cps.toList = t.cps.toList) : s = t := by
  cases s
  cases t
  simp at q
  simp [q]
structure RowOk (D : DS) (u : Str) (b : Bool) (t : Str) (e : Bool) : Prop where
  p1 : (⟨(cut u.cps.toList none (some (t.length : Int))).toArray⟩ : Str) = t
  p2 : e = true → t = u ∧ b = true
  p3 : D.unf = 0 → t = u ∧ e = b
theorem unf_zero {D : DS} (z : D.unf = 0) {s : Stm} (m : s ∈ D.str) : s.w.ps.length ≤ s.w.kn := by
  have : ∀ l : List Stm, (l.map fun s => s.w.ps.length - s.w.kn).sum = 0 → ∀ s, s ∈ l → s.w.ps.length ≤ s.w.kn := fun l => by
    induction l with
    | nil => intro _ s m; cases m
    | cons s l ih =>
      intro z t m
      simp only [List.map_cons, List.sum_cons] at z
      rcases List.mem_cons.mp m with rfl | m
      · omega
      · exact ih (by omega) t m
  exact this _ z s m
theorem row_ok {D : DS} {s : Stm} {u : Str} {b : Bool} (sb : SB s) (ts : TS D.p.hs s u b) (ms : s ∈ D.str) (hc : 0 < s.cnt) : RowOk D u b (txt s.ss) s.rcl := by
  have pl : s.w.pp.length = s.w.ps.length := by simp [WS.pp]
  have sp : s.ss <+: u.cps.toList.map sg := by
    rw [sb.ss, ← ts.fl]
    conv => rhs; rw [← List.take_append_drop s.cnt s.w.pp, List.flatten_append]
    exact List.prefix_append _ _
  have st : s.ss = (u.cps.toList.map sg).take s.ss.length := List.prefix_iff_eq_take.mp sp
  have tx : (txt s.ss).cps.toList = u.cps.toList.take s.ss.length := by
    have e1 : s.ss.map unsg = ((u.cps.toList.map sg).take s.ss.length).map unsg := congrArg (List.map unsg) st
    show s.ss.map unsg = _
    rw [e1, ← List.map_take, map_unsg (fun c m => ts.cs c (List.mem_of_mem_take m))]
  have tl : (txt s.ss).length = s.ss.length := by
    show ((s.ss.map unsg).toArray).size = _
    simp
  have full : s.cnt = s.w.ps.length → txt s.ss = u := fun q => by
    apply str_ext
    have : s.ss = u.cps.toList.map sg := by
      rw [sb.ss, ← ts.fl, List.take_of_length_le (by omega)]
    show s.ss.map unsg = _
    rw [this, map_unsg ts.cs]
  refine ⟨?_, fun q => ?_, fun q => ?_⟩
  · apply str_ext
    rw [cut_take, tl, tx]
  · rw [sb.rc] at q
    have := of_decide_eq_true q
    exact ⟨full this.2.2, ts.cl ▸ this.2.1⟩
  · have a := unf_zero q ms
    have c1 := sb.c1
    have c2 := sb.c2
    have c3 := sb.c3
    have c4 := sb.c4
    have z : s.cnt = s.w.ps.length := by omega
    refine ⟨full z, ?_⟩
    rw [sb.rc, ← ts.cl]
    cases s.w.cl <;> simp [hc, z]
    omega
end Mn
namespace T69
open PySem L2 Mn
def rrB : Sms := .of [.ite (.or (.cmp .ne (.loc 7) (.loc 1)) (.or (.cmp .ne (.cut (.sub (.loc 2) (.loc 8)) (.con .non) (.bi .len (.of [.loc 9]))) (.loc 9)) (.not (.bi .isbool (.of [.loc 10]))))) (.of [.ret (.con (.bl false))]) .nil, .ite (.and (.loc 10) (.or (.cmp .ne (.loc 9) (.sub (.loc 2) (.loc 8))) (.not (.sub (.loc 3) (.loc 8))))) (.of [.ret (.con (.bl false))]) .nil, .ite (.and (.loc 4) (.or (.cmp .ne (.loc 9) (.sub (.loc 2) (.loc 8))) (.cmp .ne (.loc 10) (.sub (.loc 3) (.loc 8))))) (.of [.ret (.con (.bl false))]) .nil]
section
variable {d : Nat} {h : Hm} {D : DS}
theorem c_rrB {k : Nat} {u t : Str} {b e last : Bool} {ta ca : Nat} (st : Mn.sub (.ref ta) (.int k) h = some (.str u)) (sc : Mn.sub (.ref ca) (.int k) h = some (.bl b)) (ul : u.length ≤ line) (tl : t.length ≤ line) (ro : RowOk D u b t e) (hl : last = true → D.unf = 0) {l0 l5 l6 l11 l12 : Option W} :
    evSs (tx.cf (run tx d)) rrB [l0, some (.int D.p.hs), some (.ref ta), some (.ref ca), some (.bl last), l5, l6, some (.int D.p.hs), some (.int k), some (.str t), some (.bl e), l11, l12] h = .nx [l0, some (.int D.p.hs), some (.ref ta), some (.ref ca), some (.bl last), l5, l6, some (.int D.p.hs), some (.int k), some (.str t), some (.bl e), l11, l12] h := by
  have lt : bi .len [.str t] h = .ok (.int t.length) h := by
    rw [u_len]
    have : lenW (.str t) h = some t.length := if_pos tl
    rw [this]
  have cu : cutV' (.str u) none (some (t.length : Int)) h = .ok (.str t) h := by
    show (if u.length ≤ line then R.ok (W.str ⟨(cut u.cps.toList none (some (t.length : Int))).toArray⟩) h else .st) = _
    rw [if_pos ul, ro.p1]
  have ib : bi .isbool [.bl e] h = .ok (.bl true) h := rfl
  have bb : ∀ x y : Bool, cmpW .ne (.bl x) (.bl y) h = some (!decide (x = y)) := fun _ _ => rfl
  have p2 := ro.p2
  have p3 := fun q => ro.p3 (hl q)
  cases e with
  | false =>
    cases last with
    | false => simp [rrB, st, sc, lt, cutB, cu, ib, bb]
    | true =>
      obtain ⟨a, c⟩ := p3 rfl
      subst a
      subst c
      simp [rrB, st, sc, lt, cutB, cu, ib, bb]
  | true =>
    obtain ⟨a, c⟩ := p2 rfl
    subst a
    subst c
    cases last with
    | false => simp [rrB, st, sc, lt, cutB, cu, ib, bb]
    | true => simp [rrB, st, sc, lt, cutB, cu, ib, bb]
end
end T69
end
section
set_option Elab.async false
set_option linter.all false
set_option maxRecDepth 100000
set_option maxHeartbeats 4000000
namespace T69
open PySem L2 Mn
def pcE : Ex := .comp (.cut (.loc 12) (.con .non) (.con (.int 2))) (.one 12) (.val (.loc 5)) (.con (.bl true))
def duE : Ex := .comp (.loc 11) (.one 11) (.rng (.con (.int 0)) (.bi .len (.of [.loc 2]))) (.or (.cmp .ne (.sub (.loc 2) (.loc 11)) (.con (.str (Str.ofString "")))) (.sub (.loc 3) (.loc 11)))
def dvE : Ex := .comp (.tup (.of [.loc 1, .loc 11])) (.one 11) (.val (.loc 6)) (.con (.bl true))
theorem rr_body : b__law_read_right = .of [.set (.one 5) (.meth (.loc 0) 90 .nil), .set (.one 6) duE, .ite (.cmp .ne pcE (.bi .sorted (.of [pcE]))) (.of [.ret (.con (.bl false))]) .nil, .ite (.and (.loc 4) (.cmp .ne pcE dvE)) (.of [.ret (.con (.bl false))]) .nil, .for (.row [7, 8, 9, 10]) (.val (.loc 5)) rrB, .ret (.con (.bl true))] := rfl
section
variable {d : Nat} {h : Hm} {D : DS}
def dueL (us : List Str) (bs : List Bool) : List Nat := (List.range us.length).filter fun k => decide (us.getD k (Str.ofString "") ≠ Str.ofString "") || bs.getD k false
theorem heard_at (c : Com D) {k : Nat} (m : k ∈ D.hk) : ∃ s r, D.str[k]? = some s ∧ s.rd = some r ∧ heardW D k = .tup [.int D.p.hs, .int k, .str (txt s.ss), .bl s.rcl] := by
  obtain ⟨s, r, a, b, _⟩ := key_get c ((sortN_perm _).mem_iff.mp m)
  exact ⟨s, r, a, b, by unfold heardW; rw [a]⟩
theorem c_pcE (c : Com D) {a : Nat} (hg : h.g a = some (.lst D.heard)) (hl : D.hk.length ≤ line) {l0 l1 l2 l3 l4 l6 l7 l8 l9 l10 l11 l12 : Option W} :
    evE (tx.cf (run tx d)) pcE [l0, l1, l2, l3, l4, some (.ref a), l6, l7, l8, l9, l10, l11, l12] h = .ok (.ref h.n) (h.push (.lst (D.hk.map (pairW D.p.hs)))) := by
  refine comp_map (k := heardW D) (gd := [(a, D.heard)]) ?_ ?_ (stays_one hg) (fun k m => ?_) hl
  · simp [toLock_ref, hg]
  · simp [u_planR, u_planLR, hg, DS.heard]
  · obtain ⟨s, r, _, _, e⟩ := heard_at c m
    refine ⟨_, rfl, by simp, ?_⟩
    simp [e, cutB, u_cutT, pairW]
    rfl
theorem due_hk {ms : List Msg} (v : InvB D ms) {us : List Str} {bs : List Bool} (t : TX D us bs) (z : D.unf = 0) : D.hk = dueL us bs := by
  refine sorted_ext ?_ (sortN_sorted _) ?_
  · have nd1 : D.hk.Nodup := (sortN_perm _).nodup_iff.mpr v.com.nd
    have nd2 : (dueL us bs).Nodup := List.Pairwise.filter _ List.nodup_range
    refine (List.perm_ext_iff_of_nodup nd1 nd2).mpr fun k => ?_
    by_cases lk : k < D.str.length
    · obtain ⟨s, ms'⟩ : ∃ s, D.str[k]? = some s := ⟨_, List.getElem?_eq_getElem lk⟩
      obtain ⟨u, mu'⟩ : ∃ u, us[k]? = some u := ⟨_, List.getElem?_eq_getElem (by rw [t.lu]; exact lk)⟩
      obtain ⟨b, mb⟩ : ∃ b, bs[k]? = some b := ⟨_, List.getElem?_eq_getElem (by rw [t.lb]; exact lk)⟩
      have ts := t.t k s u b ms' mu' mb
      obtain ⟨sb, el⟩ := v.com.sb _ _ ms'
      have a1 := unf_zero z (List.mem_of_getElem? ms')
      have c1 := sb.c1
      have c2 := sb.c2
      have c3 := sb.c3
      have c4 := sb.c4
      have pl : s.w.pp.length = s.w.ps.length := by simp [WS.pp]
      have h1 : k ∈ D.hk ↔ 0 < s.cnt := by
        rw [DS.hk, (sortN_perm _).mem_iff]
        have rd := sb.rd
        cases e : s.rd with
        | some r =>
          rw [e] at el rd
          have : 0 < s.cnt := by simpa using rd.symm
          refine ⟨fun _ => this, fun _ => ?_⟩
          by_cases q : k ∈ D.rds.map (·.1)
          · exact q
          · have : D.rds.lookup k = none := List.lookup_eq_none_iff.mpr fun p mp => by
              have : p.1 ≠ k := fun y => q (List.mem_map.mpr ⟨p, mp, y⟩)
              simp
              omega
            rw [this] at el
            cases el
        | none =>
          rw [e] at el rd
          have : s.cnt = 0 := by simpa using rd
          refine ⟨fun m => ?_, fun y => by omega⟩
          obtain ⟨p, mp, ep⟩ := List.mem_map.mp m
          have := List.lookup_eq_none_iff.mp el p mp
          simp [ep] at this
      have h2 : k ∈ dueL us bs ↔ (u ≠ Str.ofString "" ∨ b = true) := by
        have g1 : us.getD k (Str.ofString "") = u := by rw [List.getD_eq_getElem?_getD, mu']; rfl
        have g2 : bs.getD k false = b := by rw [List.getD_eq_getElem?_getD, mb]; rfl
        unfold dueL
        rw [List.mem_filter, g1, g2]
        have : k < us.length := by rw [t.lu]; exact lk
        simp [this]
      rw [h1, h2]
      have ue : u = Str.ofString "" ↔ s.w.pp.flatten = [] := by
        rw [ts.fl]
        constructor
        · intro y
          have e0 : (Str.ofString "").cps.toList = [] := by decide +kernel
          rw [y, e0]
          rfl
        · intro y
          apply str_ext
          have e0 : (Str.ofString "").cps.toList = [] := by decide +kernel
          rw [e0]
          simpa using y
      have pe : s.w.pp = [] ↔ s.cnt = 0 := by
        rw [← List.length_eq_zero_iff]
        omega
      constructor
      · intro y
        have ne : s.w.pp ≠ [] := fun q => by have := pe.mp q; omega
        cases cb : b with
        | true => exact .inr rfl
        | false =>
          have cl := ts.cl
          rw [cb] at cl
          refine .inl fun q => ?_
          have fl := ue.mp q
          obtain ⟨p, mp⟩ := List.exists_mem_of_ne_nil _ ne
          have := ts.ne cl p mp
          have := List.flatten_eq_nil_iff.mp fl p mp
          contradiction
      · intro y
        have : s.w.pp ≠ [] := by
          rcases y with y | y
          · intro q
            exact y (ue.mpr (by rw [q]; rfl))
          · have cl := ts.cl
            rw [y] at cl
            exact (ts.nc cl).1
        have : s.cnt ≠ 0 := fun q => this (pe.mpr q)
        omega
    · constructor
      · intro m
        exact absurd (v.com.keys k ((sortN_perm _).mem_iff.mp m)) lk
      · intro m
        have := List.mem_range.mp (List.mem_filter.mp m).1
        rw [t.lu] at this
        exact absurd this lk
  · exact List.Pairwise.filter _ (List.pairwise_lt_range.imp fun q => Nat.le_of_lt q)
theorem c_duE {us : List Str} {bs : List Bool} (lb : bs.length = us.length) (hn : us.length ≤ 9000) {ta ca : Nat} (ht : h.g ta = some (.lst (us.map .str))) (hc : h.g ca = some (.lst (bs.map .bl))) {l0 l1 l4 l5 l6 l7 l8 l9 l10 l11 l12 : Option W} :
    evE (tx.cf (run tx d)) duE [l0, l1, some (.ref ta), some (.ref ca), l4, l5, l6, l7, l8, l9, l10, l11, l12] h = .ok (.ref h.n) (h.push (.lst (nts (dueL us bs)))) := by
  have rg : evI (tx.cf (run tx d)) (.rng (.con (.int 0)) (.bi .len (.of [.loc 2]))) [l0, l1, some (.ref ta), some (.ref ca), l4, l5, l6, l7, l8, l9, l10, l11, l12] h = .ok ⟨(List.range' 0 us.length).map fun i : Nat => W.int i, []⟩ h :=
    evI_rngN (m := 0) (n := us.length) (by simp) (by simp [u_len, u_lenR, ht]) (by omega) (by omega)
  have := comp_fil (C := tx.cf (run tx d)) (e := .loc 11) (c := .or (.cmp .ne (.sub (.loc 2) (.loc 11)) (.con (.str (Str.ofString "")))) (.sub (.loc 3) (.loc 11))) (t := .one 11) (it := .rng (.con (.int 0)) (.bi .len (.of [.loc 2]))) (k := fun i : Nat => W.int i) (g := fun i : Nat => W.int i) (p := fun k => decide (us.getD k (Str.ofString "") ≠ Str.ofString "") || bs.getD k false) (gd := []) rfl rg rfl (fun k m => by
    have lk := (List.mem_range'_1.mp m).2
    have lk : k < us.length := by omega
    have s1 : Mn.sub (.ref ta) (.int k) h = some (.str (us.getD k (Str.ofString ""))) := sub_at ht (by simp [lk])
    have s2 : Mn.sub (.ref ca) (.int k) h = some (.bl (bs.getD k false)) := sub_at hc (by
      have : k < bs.length := by omega
      simp [this])
    revert s1 s2
    generalize us.getD k (Str.ofString "") = u
    generalize bs.getD k false = b
    intro s1 s2
    refine ⟨_, rfl, ?_, by simp⟩
    by_cases q : u = Str.ofString ""
    · subst q
      simp [s1, s2]
    · simp [s1, s2, q]) (by rw [List.length_range']; unfold line; omega)
  rw [← List.range_eq_range'] at this
  exact this
theorem c_dvE {a : Nat} {hs : Nat} {l : List Nat} (hg : h.g a = some (.lst (nts l))) (hl : l.length ≤ line) {l0 l2 l3 l4 l5 l7 l8 l9 l10 l11 l12 : Option W} :
    evE (tx.cf (run tx d)) dvE [l0, some (.int hs), l2, l3, l4, l5, some (.ref a), l7, l8, l9, l10, l11, l12] h = .ok (.ref h.n) (h.push (.lst (l.map (pairW hs)))) := by
  refine comp_map (k := fun i : Nat => W.int i) (gd := [(a, nts l)]) ?_ ?_ (stays_one hg) (fun k m => ⟨_, rfl, by simp, ?_⟩) hl
  · simp [toLock_ref, hg]
  · simp [u_planR, u_planLR, hg]
    rfl
  · simp [pairW]
theorem ne_pairs {a b hs : Nat} {l : List Nat} (ha : h.g a = some (.lst (l.map (pairW hs)))) (hb : h.g b = some (.lst (l.map (pairW hs)))) (hl : l.length ≤ 9000) : cmpW .ne (.ref a) (.ref b) h = some false := by
  show (eqW h (.ref a) (.ref b)).map _ = _
  rw [eq_pairs ha hb hl]
  rfl
end
end T69
end
section
set_option Elab.async false
set_option linter.all false
set_option maxRecDepth 100000
set_option maxHeartbeats 4000000
namespace T69
open PySem L2 Mn
section
variable {d : Nat} {h : Hm} {D : DS}
theorem hk_len {D : DS} (c : Com D) : D.hk.length ≤ 200 := by
  rw [DS.hk, (sortN_perm _).length_eq]
  have p := c.nd.length_le_of_subset (l₂ := List.range D.str.length) fun k m => List.mem_range.mpr (c.keys k m)
  have := c.n
  rw [List.length_range] at p
  omega
theorem c_read_right {ms : List Msg} (x : DFacts h D) (f : h.lk = []) (v : InvB D ms) {us : List Str} {bs : List Bool} (t : TX D us bs) (hu : ∀ u, u ∈ us → u.length ≤ line) {ta ca : Nat} (ht : h.g ta = some (.lst (us.map .str))) (hc : h.g ca = some (.lst (bs.map .bl))) (lt : ta < h.n) (lc : ca < h.n) {last : Bool} (hl : last = true → D.unf = 0) :
    run tx (d + 5) 308 [.ref D.a, .int D.p.hs, .ref ta, .ref ca, .bl last] h = .ok (.bl true) h := by
  refine run_pure_old f308 rfl rfl ?_ rfl
  obtain ⟨h0, e0⟩ : ∃ h0 : Hm, h0 = { h with lo := h.n } := ⟨_, rfl⟩
  have g0 : h0.g = h.g := by rw [e0]
  have n0 : h0.n = h.n := by rw [e0]
  have hkl := hk_len v.com
  have usl : us.length ≤ 200 := by rw [t.lu]; exact v.com.n
  have e1 : run tx (d + 4) 58 [.ref D.a] h0 = .ok (.ref h0.n) (h0.push (.lst D.heard)) := by
    rw [e0]
    exact c_heard x.up f v.com
  obtain ⟨h1, q1⟩ : ∃ h1, h1 = h0.push (.lst D.heard) := ⟨_, rfl⟩
  rw [← q1] at e1
  have n1 : h1.n = h.n + 1 := by rw [q1, Hm.push_n, n0]
  have g1 : ∀ a, a < h.n → h1.g a = h.g a := fun a q => by rw [q1, Hm.push_lt (by rw [n0]; exact q), g0]
  have a1 : h1.g h0.n = some (.lst D.heard) := by rw [q1]; simp
  obtain ⟨h2, q2⟩ : ∃ h2, h2 = h1.push (.lst (nts (dueL us bs))) := ⟨_, rfl⟩
  have n2 : h2.n = h.n + 2 := by rw [q2, Hm.push_n, n1]
  have k2 : ∀ a, a < h.n + 1 → h2.g a = h1.g a := fun a q => by rw [q2, Hm.push_lt (by rw [n1]; exact q)]
  have b2 : h2.g h1.n = some (.lst (nts (dueL us bs))) := by rw [q2]; simp
  obtain ⟨h3, q3⟩ : ∃ h3, h3 = h2.push (.lst (D.hk.map (pairW D.p.hs))) := ⟨_, rfl⟩
  have n3 : h3.n = h.n + 3 := by rw [q3, Hm.push_n, n2]
  have k3 : ∀ a, a < h.n + 2 → h3.g a = h2.g a := fun a q => by rw [q3, Hm.push_lt (by rw [n2]; exact q)]
  have b3 : h3.g h2.n = some (.lst (D.hk.map (pairW D.p.hs))) := by rw [q3]; simp
  obtain ⟨h4, q4⟩ : ∃ h4, h4 = h3.push (.lst (D.hk.map (pairW D.p.hs))) := ⟨_, rfl⟩
  have n4 : h4.n = h.n + 4 := by rw [q4, Hm.push_n, n3]
  have k4 : ∀ a, a < h.n + 3 → h4.g a = h3.g a := fun a q => by rw [q4, Hm.push_lt (by rw [n3]; exact q)]
  have b4 : h4.g h3.n = some (.lst (D.hk.map (pairW D.p.hs))) := by rw [q4]; simp
  obtain ⟨h5, q5⟩ : ∃ h5, h5 = h4.push (.lst (D.hk.map (pairW D.p.hs))) := ⟨_, rfl⟩
  have n5 : h5.n = h.n + 5 := by rw [q5, Hm.push_n, n4]
  have k5 : ∀ a, a < h.n + 4 → h5.g a = h4.g a := fun a q => by rw [q5, Hm.push_lt (by rw [n4]; exact q)]
  have b5 : h5.g h4.n = some (.lst (D.hk.map (pairW D.p.hs))) := by rw [q5]; simp
  obtain ⟨h6, q6⟩ : ∃ h6, h6 = h5.push (.lst (D.hk.map (pairW D.p.hs))) := ⟨_, rfl⟩
  have n6 : h6.n = h.n + 6 := by rw [q6, Hm.push_n, n5]
  have k6 : ∀ a, a < h.n + 5 → h6.g a = h5.g a := fun a q => by rw [q6, Hm.push_lt (by rw [n5]; exact q)]
  have b6 : h6.g h5.n = some (.lst (D.hk.map (pairW D.p.hs))) := by rw [q6]; simp
  have lnn : line = 16777216 := rfl
  let σ5 : List (Option W) := [some (.ref D.a), some (.int D.p.hs), some (.ref ta), some (.ref ca), some (.bl last), some (.ref h0.n), none, none, none, none, none, none, none]
  let σ6 : List (Option W) := [some (.ref D.a), some (.int D.p.hs), some (.ref ta), some (.ref ca), some (.bl last), some (.ref h0.n), some (.ref h1.n), none, none, none, none, none, none]
  have c5 : evE (tx.cf (run tx (d + 4))) duE σ5 h1 = .ok (.ref h1.n) h2 := by rw [q2]; exact c_duE (by rw [t.lb, t.lu]) (by omega) ((g1 _ lt).trans ht) ((g1 _ lc).trans hc)
  have c6 : evE (tx.cf (run tx (d + 4))) pcE σ6 h2 = .ok (.ref h2.n) h3 := by rw [q3]; exact c_pcE v.com ((k2 _ (by omega)).trans a1) (by omega)
  have c7 : evE (tx.cf (run tx (d + 4))) pcE σ6 h3 = .ok (.ref h3.n) h4 := by rw [q4]; exact c_pcE v.com ((k3 _ (by omega)).trans ((k2 _ (by omega)).trans a1)) (by omega)
  have c8 : bi .sorted [.ref h3.n] h4 = .ok (.ref h4.n) h5 := by
    rw [u_sorted, u_rdL, b4]
    show (match sortW h4 (D.hk.map (pairW D.p.hs)) with
      | some ys => new (.lst ys) h4
      | none => .st) = _
    rw [sortW_pairs (by omega), DS.hk, sortN_idem, q5]
    rfl
  have c9 : cmpW .ne (.ref h2.n) (.ref h4.n) h5 = some false := ne_pairs ((k5 _ (by omega)).trans ((k4 _ (by omega)).trans b3)) b5 (by omega)
  have c10 : evE (tx.cf (run tx (d + 4))) pcE σ6 h5 = .ok (.ref h5.n) h6 := by rw [q6]; exact c_pcE v.com ((k5 _ (by omega)).trans ((k4 _ (by omega)).trans ((k3 _ (by omega)).trans ((k2 _ (by omega)).trans a1)))) (by omega)
  -- the end of the reading, in any heap that holds what is read
  have fin : ∀ h7 : Hm, h7.g h0.n = some (.lst D.heard) → h7.g ta = some (.lst (us.map .str)) → h7.g ca = some (.lst (bs.map .bl)) → ∃ σ' : List (Option W), evS (tx.cf (run tx (d + 4))) (.for (.row [7, 8, 9, 10]) (.val (.loc 5)) rrB) σ6 h7 = .nx σ' h7 := fun h7 w1 w2 w3 => by
    let I : List Nat → List (Option W) → Hm → Prop := fun ys σ h' => h' = h7 ∧ (∀ k, k ∈ ys → k ∈ D.hk) ∧ ∃ l7 l8 l9 l10, σ = [some (.ref D.a), some (.int D.p.hs), some (.ref ta), some (.ref ca), some (.bl last), some (.ref h0.n), some (.ref h1.n), l7, l8, l9, l10, none, none]
    obtain ⟨σ', h', e, eh, _⟩ := forL_ex (gd := [(h0.n, D.heard)]) (k := heardW D) (f := fun x σ h => match store (.row [7, 8, 9, 10]) x σ h with
      | some σ => evSs (tx.cf (run tx (d + 4))) rrB σ h
      | none => .st) I (fun ys σ h' i => by
        obtain ⟨rfl, _⟩ := i
        exact stays_one w1) (fun k ys σ h' i => by
        obtain ⟨rfl, mk, l7, l8, l9, l10, rfl⟩ := i
        obtain ⟨s, r, ms', er, ew⟩ := heard_at v.com (mk k List.mem_cons_self)
        have lk := (List.getElem?_eq_some_iff.mp ms').1
        obtain ⟨u, mu'⟩ : ∃ u, us[k]? = some u := ⟨_, List.getElem?_eq_getElem (by rw [t.lu]; exact lk)⟩
        obtain ⟨b, mb⟩ : ∃ b, bs[k]? = some b := ⟨_, List.getElem?_eq_getElem (by rw [t.lb]; exact lk)⟩
        have sb := (v.com.sb _ _ ms').1
        have cp : 0 < s.cnt := by
          have := sb.rd
          rw [er] at this
          simpa using this.symm
        have ro := row_ok sb (t.t k s u b ms' mu' mb) (List.mem_of_getElem? ms') cp
        have tl : (txt s.ss).length ≤ line := by
          have := (ss_ok sb).2
          show ((s.ss.map unsg).toArray).size ≤ line
          simp
          omega
        refine ⟨_, _, ?_, rfl, fun j mj => mk j (List.mem_cons_of_mem _ mj), some (.int D.p.hs), some (.int k), some (.str (txt s.ss)), some (.bl s.rcl), rfl⟩
        rw [ew]
        exact c_rrB (sub_at w2 (by simp [mu'])) (sub_at w3 (by simp [mb])) (hu u (List.mem_of_getElem? mu')) tl ro hl) (ys := D.hk) (σ := σ6) (h := h7) ⟨rfl, fun _ m => m, none, none, none, none, rfl⟩
    rw [eh] at e
    refine ⟨σ', ?_⟩
    rw [evS_for]
    simp only [σ6] at e ⊢
    simp [toLock_ref, w1, u_planR, u_planLR]
    exact e
  rw [← e0]
  have xa := x.a
  have s5 : evS (tx.cf (run tx (d + 4))) (.set (.one 5) (.meth (.loc 0) 90 .nil)) [some (.ref D.a), some (.int D.p.hs), some (.ref ta), some (.ref ca), some (.bl last), none, none, none, none, none, none, none, none] h0 = .nx σ5 h1 := by
    simp [g0, xa, e1, σ5]
  have s6 : evS (tx.cf (run tx (d + 4))) (.set (.one 6) duE) σ5 h1 = .nx σ6 h2 := by
    rw [evS_set1, c5]
    rfl
  have s7 : evS (tx.cf (run tx (d + 4))) (.ite (.cmp .ne pcE (.bi .sorted (.of [pcE]))) (.of [.ret (.con (.bl false))]) .nil) σ6 h2 = .nx σ6 h5 := by
    simp [c6, c7, c8, c9]
  simp only [F__law_read_right, rr_body, Sms.of_cons, Sms.of_nil, evSs_cons, evSs_nil]
  rw [show startW 13 [W.ref D.a, .int D.p.hs, .ref ta, .ref ca, .bl last] = [some (.ref D.a), some (.int D.p.hs), some (.ref ta), some (.ref ca), some (.bl last), none, none, none, none, none, none, none, none] from rfl, s5]
  simp only [F.seq_nx]
  rw [s6]
  simp only [F.seq_nx]
  simp only [Sms.of_cons, Sms.of_nil] at s7
  rw [s7]
  simp only [F.seq_nx]
  have w1 : h5.g h0.n = some (.lst D.heard) := (k5 _ (by omega)).trans ((k4 _ (by omega)).trans ((k3 _ (by omega)).trans ((k2 _ (by omega)).trans a1)))
  have w2 : h5.g ta = some (.lst (us.map .str)) := (k5 _ (by omega)).trans ((k4 _ (by omega)).trans ((k3 _ (by omega)).trans ((k2 _ (by omega)).trans ((g1 _ lt).trans ht))))
  have w3 : h5.g ca = some (.lst (bs.map .bl)) := (k5 _ (by omega)).trans ((k4 _ (by omega)).trans ((k3 _ (by omega)).trans ((k2 _ (by omega)).trans ((g1 _ lc).trans hc))))
  cases last with
  | false =>
    have s8 : evS (tx.cf (run tx (d + 4))) (.ite (.and (.loc 4) (.cmp .ne pcE dvE)) (.cons (.ret (.con (.bl false))) .nil) .nil) σ6 h5 = .nx σ6 h5 := by
      simp [σ6]
    obtain ⟨σ', s9⟩ := fin h5 w1 w2 w3
    rw [s8]
    simp only [F.seq_nx]
    rw [s9]
    simp
  | true =>
    have dl := due_hk v t (hl rfl)
    obtain ⟨h7, q7⟩ : ∃ h7, h7 = h6.push (.lst (D.hk.map (pairW D.p.hs))) := ⟨_, rfl⟩
    have n7 : h7.n = h.n + 7 := by rw [q7, Hm.push_n, n6]
    have k7 : ∀ a, a < h.n + 6 → h7.g a = h6.g a := fun a q => by rw [q7, Hm.push_lt (by rw [n6]; exact q)]
    have b7 : h7.g h6.n = some (.lst (D.hk.map (pairW D.p.hs))) := by rw [q7]; simp
    have c11 : evE (tx.cf (run tx (d + 4))) dvE σ6 h6 = .ok (.ref h6.n) h7 := by
      rw [q7, dl]
      exact c_dvE ((k6 _ (by omega)).trans ((k5 _ (by omega)).trans ((k4 _ (by omega)).trans ((k3 _ (by omega)).trans b2)))) (by rw [← dl]; omega)
    have c12 : cmpW .ne (.ref h5.n) (.ref h6.n) h7 = some false := ne_pairs ((k7 _ (by omega)).trans b6) b7 (by omega)
    have s8 : evS (tx.cf (run tx (d + 4))) (.ite (.and (.loc 4) (.cmp .ne pcE dvE)) (.cons (.ret (.con (.bl false))) .nil) .nil) σ6 h5 = .nx σ6 h7 := by
      have l4 : evT (tx.cf (run tx (d + 4))) (.loc 4) σ6 h5 = .ok true h5 := by simp [σ6]
      rw [evS_ite, q_evT_and, l4]
      simp [c10, c11, c12]
    obtain ⟨σ', s9⟩ := fin h7 ((k7 _ (by omega)).trans ((k6 _ (by omega)).trans w1)) ((k7 _ (by omega)).trans ((k6 _ (by omega)).trans w2)) ((k7 _ (by omega)).trans ((k6 _ (by omega)).trans w3))
    rw [s8]
    simp only [F.seq_nx]
    rw [s9]
    simp
end
end T69
end
section
set_option Elab.async false
set_option linter.all false
set_option maxRecDepth 100000
set_option maxHeartbeats 4000000
namespace Mn
open PySem L2
def DS.tot (D : DS) : Nat := (D.str.map fun s => s.w.ps.length).sum
theorem TS.of_key {hs hs' : Nat} {s s' : Stm} {u : Str} {b : Bool} (t : TS hs s u b) (e : keyT s' = keyT s) : TS hs' s' u b := by
  simp only [keyT, Prod.mk.injEq] at e
  obtain ⟨_, e2, e3⟩ := e
  exact ⟨by rw [e2]; exact t.fl, t.cs, by rw [e3]; exact t.cl, by rw [e2, e3]; exact t.ne, by rw [e2, e3]; exact t.nc⟩
theorem TX.of_key {D D' : DS} {us : List Str} {bs : List Bool} (t : TX D us bs) (e : D'.str.map keyT = D.str.map keyT) : TX D' us bs := by
  have l : D'.str.length = D.str.length := by simpa using congrArg List.length e
  refine ⟨by rw [l]; exact t.lu, by rw [l]; exact t.lb, fun k s u b ms mu mb => ?_⟩
  obtain ⟨s0, m0, e0⟩ := map_get e ms
  exact (t.t k s0 u b m0 mu mb).of_key e0
theorem tot_key {D D' : DS} (e : D'.str.map keyT = D.str.map keyT) : D'.tot = D.tot := by
  unfold DS.tot
  have a : ∀ l : List Stm, (l.map fun s => s.w.ps.length) = (l.map keyT).map fun q => q.2.1.length := fun l => by
    rw [List.map_map]
    exact List.map_congr_left fun s _ => by simp [keyT, WS.pp]
  rw [a, a, e]
section
variable {D : DS}
theorem write_inv {ms : List Msg} (v : InvB D ms) {us : List Str} {bs : List Bool} (t : TX D us bs) {k : Nat} {s : Stm} {u w : Str} (m : D.str[k]? = some s) (mu : us[k]? = some u) (mb : bs[k]? = some false) (wc : ∀ c, c ∈ w.cps.toList → c ∈ codes) (hl : s.w.ps.length + w.cps.size ≤ 9000) (ht : D.tot + w.cps.size ≤ 20000)
    {ps' : List (Nat × List Nat)} (e : ps'.map (·.2) = (w.cps.toList.map sg).foldl (addS s.w.fx) s.w.pp) :
    InvB { D with str := D.str.set k { s with w := { s.w with ps := ps' } } } ms ∧ TX { D with str := D.str.set k { s with w := { s.w with ps := ps' } } } (us.set k (u ++ w)) bs ∧ DS.tot { D with str := D.str.set k { s with w := { s.w with ps := ps' } } } ≤ D.tot + w.cps.size ∧ s.w.ps.length ≤ ps'.length ∧ (w ≠ Str.ofString "" → s.w.kn < ps'.length) := by
  have ts := t.t k s u false m mu mb
  obtain ⟨sb, el⟩ := v.com.sb _ _ m
  have pl : s.w.pp.length = s.w.ps.length := by simp [WS.pp]
  have pl2 : (ps'.map (·.2)).length = ps'.length := List.length_map _
  obtain ⟨r1, r2, r3, r4, r5, r6, r7⟩ := addSs (fx := s.w.fx) (L := w.cps.toList.map sg) (ps := s.w.pp) (by rw [pl]; exact sb.c4) sb.wok.p12 sb.wok.sg (fun x mx => by
    obtain ⟨c, mc, rfl⟩ := List.mem_map.mp mx
    exact sg_lt c (wc c mc)) (ts.ne ts.cl)
  rw [← e] at r1 r2 r3 r4 r5 r6 r7
  have wl : (w.cps.toList.map sg).length = w.cps.size := by simp
  rw [wl] at r7
  have c1 := sb.c1
  have c2 := sb.c2
  have c3 := sb.c3
  have c4 := sb.c4
  have st : ((D.str.set k { s with w := { s.w with ps := ps' } }).map fun s => s.w.ps.length).sum + s.w.ps.length = D.tot + ps'.length := sum_set (f := fun s : Stm => s.w.ps.length) (s' := { s with w := { s.w with ps := ps' } }) m
  have u1 : (u ++ w).cps.toList = u.cps.toList ++ w.cps.toList := by
    show (u.cps ++ w.cps).toList = _
    simp
  refine ⟨v.setw m ts.cl rfl rfl ⟨r3, r4, ?_, ?_⟩ ?_ r2 (fun z => ?_) ?_, ⟨?_, ?_, fun j s' u' b' ms' mu' mb' => ?_⟩, ?_, by omega, fun ne => ?_⟩
  · show s.w.kn ≤ ps'.length
    omega
  · show ps'.length ≤ 9000
    omega
  · show s.w.fx ≤ ps'.length
    omega
  · have z : s.w.cl = true := z
    rw [ts.cl] at z
    cases z
  · omega
  · simpa using t.lu
  · simpa using t.lb
  · rcases get_set m ms' with ⟨rfl, rfl⟩ | ⟨nj, ms'⟩
    · have lu : j < us.length := (List.getElem?_eq_some_iff.mp mu).1
      have : u' = u ++ w := by
        simp [lu] at mu'
        exact mu'.symm
      subst this
      rw [mb] at mb'
      have := Option.some.inj mb'
      subst this
      refine ⟨?_, ?_, ts.cl, fun _ => r5, fun z => ?_⟩
      · show (ps'.map (·.2)).flatten = _
        rw [r1, ts.fl, u1, List.map_append]
      · intro c mc
        rw [u1] at mc
        exact (List.mem_append.mp mc).elim (ts.cs c) (wc c)
      · have z : s.w.cl = true := z
        rw [ts.cl] at z
        cases z
    · rw [List.getElem?_set_ne (fun z => nj z.symm)] at mu'
      exact t.t j s' u' b' ms' mu' mb'
  · show ((D.str.set k { s with w := { s.w with ps := ps' } }).map fun s => s.w.ps.length).sum ≤ _
    omega
  · -- something new was written: it is not known to be read
    by_cases q : s.w.kn < s.w.ps.length
    · omega
    · have kl : s.w.kn = s.w.ps.length := by have := sb.wok.kn; omega
      by_cases q2 : ps'.length = s.w.ps.length
      · have e1 : (ps'.map (·.2)) = s.w.pp := by
          have fl : s.w.fx = s.w.ps.length := by omega
          rw [fl] at r2
          rw [List.take_of_length_le (by omega), List.take_of_length_le (by omega)] at r2
          exact r2
        rw [e1] at r1
        have : (w.cps.toList.map sg) = [] := by simpa using r1
        exact absurd (str_ext (by
          have e0 : (Str.ofString "").cps.toList = [] := by decide +kernel
          rw [e0]
          simpa using this)) ne
      · omega
theorem close_inv {ms : List Msg} (v : InvB D ms) {us : List Str} {bs : List Bool} (t : TX D us bs) {k : Nat} {s : Stm} (m : D.str[k]? = some s) (mb : bs[k]? = some false) (hl : s.w.ps.length + 1 ≤ 9000) (ht : D.tot + 1 ≤ 20000)
    {ps' : List (Nat × List Nat)} (e : ps'.map (·.2) = if s.w.fx < s.w.ps.length then s.w.pp else s.w.pp ++ [[]]) :
    InvB { D with str := D.str.set k { s with w := { s.w with ps := ps', cl := true } } } ms ∧ TX { D with str := D.str.set k { s with w := { s.w with ps := ps', cl := true } } } us (bs.set k true) ∧ DS.tot { D with str := D.str.set k { s with w := { s.w with ps := ps', cl := true } } } ≤ D.tot + 1 ∧ s.w.ps.length ≤ ps'.length ∧ ps'.length ≤ s.w.ps.length + 1 := by
  have lk : k < D.str.length := (List.getElem?_eq_some_iff.mp m).1
  obtain ⟨u, mu⟩ : ∃ u, us[k]? = some u := ⟨_, List.getElem?_eq_getElem (by rw [t.lu]; exact lk)⟩
  have ts := t.t k s u false m mu mb
  obtain ⟨sb, el⟩ := v.com.sb _ _ m
  have pl : s.w.pp.length = s.w.ps.length := by simp [WS.pp]
  have pl2 : (ps'.map (·.2)).length = ps'.length := List.length_map _
  have c1 := sb.c1
  have c2 := sb.c2
  have c3 := sb.c3
  have c4 := sb.c4
  have ne := ts.ne ts.cl
  have key : (ps'.map (·.2)).flatten = s.w.pp.flatten ∧ (ps'.map (·.2)).take s.w.fx = s.w.pp.take s.w.fx ∧ (∀ p, p ∈ ps'.map (·.2) → p.length ≤ 12) ∧ (∀ p, p ∈ ps'.map (·.2) → ∀ x, x ∈ p → x < 96 ∧ x ≠ 5) ∧ s.w.fx < ps'.length ∧ s.w.ps.length ≤ ps'.length ∧ ps'.length ≤ s.w.ps.length + 1 ∧ ps'.map (·.2) ≠ [] ∧ ∀ p, p ∈ (ps'.map (·.2)).dropLast → p ≠ [] := by
    by_cases q : s.w.fx < s.w.ps.length
    · rw [if_pos q] at e
      rw [← pl2, e, pl]
      exact ⟨rfl, rfl, sb.wok.p12, sb.wok.sg, q, Nat.le_refl _, by omega, fun z => by rw [z] at pl; simp at pl; omega, fun p mp => ne p (List.dropLast_subset _ mp)⟩
    · rw [if_neg q] at e
      rw [← pl2, e, List.length_append, pl]
      refine ⟨by simp, by rw [List.take_append_of_le_length (by omega)], fun p mp => ?_, fun p mp => ?_, by simp; omega, by simp, by simp, by simp, fun p mp => ?_⟩
      · rcases List.mem_append.mp mp with z | z
        · exact sb.wok.p12 p z
        · simp at z
          simp [z]
      · rcases List.mem_append.mp mp with z | z
        · exact sb.wok.sg p z
        · simp at z
          simp [z]
      · rw [List.dropLast_concat] at mp
        exact ne p mp
  obtain ⟨r1, r2, r3, r4, r5, r6, r7, r8, r9⟩ := key
  have st : ((D.str.set k { s with w := { s.w with ps := ps', cl := true } }).map fun s => s.w.ps.length).sum + s.w.ps.length = D.tot + ps'.length := sum_set (f := fun s : Stm => s.w.ps.length) (s' := { s with w := { s.w with ps := ps', cl := true } }) m
  refine ⟨v.setw m ts.cl rfl rfl ⟨r3, r4, ?_, ?_⟩ ?_ r2 (fun _ => r5) ?_, ⟨?_, ?_, fun j s' u' b' ms' mu' mb' => ?_⟩, ?_, r6, r7⟩
  · show s.w.kn ≤ ps'.length
    omega
  · show ps'.length ≤ 9000
    omega
  · show s.w.fx ≤ ps'.length
    omega
  · omega
  · simpa using t.lu
  · simpa using t.lb
  · rcases get_set m ms' with ⟨rfl, rfl⟩ | ⟨nj, ms'⟩
    · have lb : j < bs.length := (List.getElem?_eq_some_iff.mp mb).1
      have : b' = true := by
        simp [lb] at mb'
        exact mb'
      subst this
      rw [mu] at mu'
      have := Option.some.inj mu'
      subst this
      refine ⟨?_, ts.cs, rfl, fun z => ?_, fun _ => ⟨r8, r9⟩⟩
      · show (ps'.map (·.2)).flatten = _
        rw [r1, ts.fl]
      · cases z
    · rw [List.getElem?_set_ne (fun z => nj z.symm)] at mb'
      exact t.t j s' u' b' ms' mu' mb'
  · show ((D.str.set k { s with w := { s.w with ps := ps', cl := true } }).map fun s => s.w.ps.length).sum ≤ _
    omega
theorem begin_tx {us : List Str} {bs : List Bool} (t : TX D us bs) {n : Nat} : TX { D with str := D.str ++ [newStm n] } (us ++ [Str.ofString ""]) (bs ++ [false]) ∧ DS.tot { D with str := D.str ++ [newStm n] } = D.tot := by
  refine ⟨⟨by simp [t.lu], by simp [t.lb], fun j s u b ms mu mb => ?_⟩, ?_⟩
  · have ms : (D.str ++ [newStm n])[j]? = some s := ms
    by_cases q : j < D.str.length
    · rw [List.getElem?_append_left q] at ms
      rw [List.getElem?_append_left (by rw [t.lu]; exact q)] at mu
      rw [List.getElem?_append_left (by rw [t.lb]; exact q)] at mb
      exact t.t j s u b ms mu mb
    · have : j = D.str.length := by
        have := (List.getElem?_eq_some_iff.mp ms).1
        simp at this
        omega
      subst this
      rw [← t.lu] at mu
      rw [← t.lb] at mb
      simp at ms mu mb
      subst ms
      subst mu
      subst mb
      have e0 : (Str.ofString "").cps.toList = [] := by decide +kernel
      exact ⟨by rw [e0]; rfl, by rw [e0]; simp, rfl, fun _ => by simp [newStm, WS.pp], fun z => by cases z⟩
  · show ((D.str ++ [newStm n]).map fun s => s.w.ps.length).sum = _
    simp [DS.tot, newStm]
end
end Mn
end
section
set_option Elab.async false
set_option linter.all false
set_option maxRecDepth 100000
set_option maxHeartbeats 4000000
namespace Mn
open PySem L2
section
variable {T : Tx} [Lib1 T] {d : Nat} {h : Hm}
theorem c_look_near {hs a : Nat} (ha : h.g a = some (.lst [])) (la : a < h.n) : run T (d + 1) 10 [.int hs, .ref a] h = .ok .non h := by
  have ne : a ≠ h.n := by omega
  refine run_pure_old (Lib1.f10 (T := T)) rfl rfl ?_ rfl
  simp [P.F_look_at_near, P.b_look_at_near, startW, u_len, u_lenR, ha, dpairs, keyOf, putD, evS_for, toLock_ref, Hm.push_g, ne, u_planR, u_planLR, forL, u_stays]
theorem lenset0 {a : Nat} (ha : h.g a = some (.lst [])) : bi .lenset [.ref a] h = .ok (.int 0) h := by
  have e : seqW (.ref a) h = some [] := by
    show (match h.g a with
      | some (.lst xs) => some xs
      | _ => none) = _
    rw [ha]
  show (match seqW (.ref a) h with
    | some xs => (match intsL xs with
      | some is => if is.length ≤ 4000 then R.ok (W.int (is.foldl PyProof.Rows.step_dedup []).length) h else .st
      | none => (match strsL xs with
        | some ss => if ss.length ≤ 1 then R.ok (W.int ss.length) h else .st
        | none => .st))
    | none => .st) = _
  rw [e]
  rfl
theorem c_look_names {a : Nat} (ha : h.g a = some (.lst [])) (la : a < h.n) : run T (d + 1) 11 [.ref a] h = .ok .non h := by
  refine run_pure_old (Lib1.f11 (T := T)) rfl rfl ?_ rfl
  have l0 := lenset0 (h := { h with lo := h.n }) ha
  simp [P.F_look_at_names, P.b_look_at_names, startW, l0, u_len, u_lenR, ha, evS_for, toLock_ref, u_planR, u_planLR, forL, u_stays]
theorem c_made_news {hs a b : Nat} (hh : hs < 32) (ha : h.g a = some (.lst [])) (la : a < h.n) (hb : h.g b = some (.lst [])) (lb : b < h.n) : run T (d + 2) 12 [.int hs, .int 0, .ref a, .ref b] h = .ok (news1 hs 0 []) h := by
  have e0 : run T (d + 1) 8 [.int hs] { h with lo := h.n } = .ok (.bl true) { h with lo := h.n } := c_is_house hh
  have e1 : run T (d + 1) 10 [.int hs, .ref a] { h with lo := h.n } = .ok .non { h with lo := h.n } := c_look_near (h := { h with lo := h.n }) ha la
  have e2 : run T (d + 1) 11 [.ref b] { h with lo := h.n } = .ok .non { h with lo := h.n } := c_look_names (h := { h with lo := h.n }) hb lb
  have na : a ≠ h.n := by omega
  have nb : b ≠ h.n := by omega
  have nl : ∀ (h : Hm), newL [] h = .ok (.ref h.n) (h.push (.lst [])) := fun h => newL_eq (by decide)
  refine run_pure_old (Lib1.f12 (T := T)) rfl rfl ?_ rfl
  simp [P.F_made_news, P.b_made_news, startW, e0, e1, e2, toLock_ref, ha, u_planR, u_planLR, compL, u_stays, nl, u_sorted, u_rdL, Hm.push_g, nb, hb, sort0, u_tupR, news1]
def post0 (n hs : Nat) : PS := ⟨n, n + 2, n + 3, n + 4, n + 5, n + 8, n + 9, n + 10, hs, 0, 0, 0, [], [], [], false⟩
theorem c_hear0 {m k hs : Nat} (f : Free h) (hm : h.g m = some (.ins 1 [(5, .ref k)])) (hk : h.g k = some (.dK [])) : run T (d + 1) 22 [.ref m, news1 hs 0 []] h = .ok (.bl true) (h.put k (.dK [(.inl (hs : Int), news1 hs 0 [])])) := by
  rw [run_fn (Lib1.f22 (T := T)) rfl rfl]
  simp [P.F_Map_hear, P.b_Map_hear, startW, u_fldW, f.lo, f.lk, hm, hk, news1, u_subT, ixn, u_isin, u_inR, u_dgetR, keyOf, u_sett, setD, putD, line]
theorem c_map0 (f : Free h) : run T (d + 1) 21 [.ref h.n] (h.push (.ins 1 [])) = .ok .non ((h.push (.ins 1 [(5, .ref (h.n + 1))])).push (.dK [])) := by
  rw [run_fn (Lib1.f21 (T := T)) rfl rfl]
  simp [P.F_Map___init__, P.b_Map___init__, startW, u_fldW, f.lo, Hm.push_g, put_push2]
end
section
variable {h : Hm} {o o1 o2 o3 o4 o5 o6 o7 o8 o9 o10 o11 : O}
theorem put_push5 : (((((h.push o1).push o2).push o3).push o4).push o5).put h.n o = ((((h.push o).push o2).push o3).push o4).push o5 := by
  rw [put_push_ne (by simp), put_push4]
theorem put_push6 : ((((((h.push o1).push o2).push o3).push o4).push o5).push o6).put h.n o = (((((h.push o).push o2).push o3).push o4).push o5).push o6 := by
  rw [put_push_ne (by simp), put_push5]
theorem put_push7 : (((((((h.push o1).push o2).push o3).push o4).push o5).push o6).push o7).put h.n o = ((((((h.push o).push o2).push o3).push o4).push o5).push o6).push o7 := by
  rw [put_push_ne (by simp), put_push6]
theorem put_push8 : ((((((((h.push o1).push o2).push o3).push o4).push o5).push o6).push o7).push o8).put h.n o = (((((((h.push o).push o2).push o3).push o4).push o5).push o6).push o7).push o8 := by
  rw [put_push_ne (by simp), put_push7]
theorem put_push9 : (((((((((h.push o1).push o2).push o3).push o4).push o5).push o6).push o7).push o8).push o9).put h.n o = ((((((((h.push o).push o2).push o3).push o4).push o5).push o6).push o7).push o8).push o9 := by
  rw [put_push_ne (by simp), put_push8]
theorem put_push10 : ((((((((((h.push o1).push o2).push o3).push o4).push o5).push o6).push o7).push o8).push o9).push o10).put h.n o = (((((((((h.push o).push o2).push o3).push o4).push o5).push o6).push o7).push o8).push o9).push o10 := by
  rw [put_push_ne (by simp), put_push9]
theorem put_push11 : (((((((((((h.push o1).push o2).push o3).push o4).push o5).push o6).push o7).push o8).push o9).push o10).push o11).put h.n o = ((((((((((h.push o).push o2).push o3).push o4).push o5).push o6).push o7).push o8).push o9).push o10).push o11 := by
  rw [put_push_ne (by simp), put_push10]
end
end Mn
namespace T69
open PySem L2 Mn
theorem c_cell0 {d : Nat} {h : Hm} {a : Nat} {xs : List Int} (hg : h.g a = some (.lst (xs.map .int))) : run tx (d + 1) 300 [.ref a, .int 0] h = .ok (.int (xs.headD 0)) h := by
  refine run_pure_old f300 rfl rfl ?_ rfl
  cases xs with
  | nil => simp [F__law_cell_at, b__law_cell_at, startW, u_len, u_lenR, hg]
  | cons x xs => simp [F__law_cell_at, b__law_cell_at, startW, u_len, u_lenR, hg, u_subR, ixn]
end T69
end
section
set_option Elab.async false
set_option linter.all false
set_option maxRecDepth 100000
set_option maxHeartbeats 4000000
namespace Mn
open PySem L2
section
variable {T : Tx} [Lib1 T] {d : Nat} {h : Hm}
theorem c_post0 {hs wl : Nat} (f : Free h) (hh : hs < 32) (hw : h.g wl = some (.lst [])) (lw : wl < h.n) : run T (d + 3) 132 [.ref h.n, .int hs, .ref wl] (h.push (.ins 11 [])) = .ok .non (((((((((((h.push (oPost (post0 h.n hs))).push (.dK [(.inl (hs : Int), .bl true)])).push (.lst [])).push (.lst [])).push (.ins 1 [(5, .ref (h.n + 5))])).push (.dK [(.inl (hs : Int), news1 hs 0 [])])).push (.lst [])).push (.lst [])).push (.lst [])).push (.lst [])).push (.lst [])) := by
  have a1 : run T (d + 2) 121 [.int hs] (h.push (.ins 11 [])) = .ok .non (h.push (.ins 11 [])) := c_ask_house hh
  have nw : wl ≠ h.n := by omega
  have nl : ∀ (h : Hm), newL [] h = .ok (.ref h.n) (h.push (.lst [])) := fun h => newL_eq (by decide)
  have nw1 : wl ≠ h.n + 1 := by omega
  obtain ⟨G, eG⟩ : ∃ G, G = (((h.push (.ins 11 [(50, .int hs), (51, .ref (h.n + 2)), (52, .int 0), (53, .int 0), (54, .ref (h.n + 3))])).push (.dK [(.inl (hs : Int), .bl true)])).push (.lst [])).push (.lst []) := ⟨_, rfl⟩
  have b1 := c_map0 (T := T) (d := d + 1) (h := G) ⟨by rw [eG]; exact f.lo, by rw [eG]; exact f.lk⟩
  have nG : G.n = h.n + 1 + 1 + 1 + 1 := by rw [eG]; rfl
  rw [nG, eG] at b1
  let H6 : Hm := (((((((h.push (.ins 11 [(50, .int hs), (51, .ref (h.n + 2)), (52, .int 0), (53, .int 0), (54, .ref (h.n + 3)), (55, .ref (h.n + 4)), (56, .int 0)])).push (.dK [(.inl (hs : Int), .bl true)])).push (.lst [])).push (.lst [])).push (.ins 1 [(5, .ref (h.n + 5))])).push (.dK [])).push (.lst [])).push (.lst [])
  have b2 : run T (d + 2) 12 [.int hs, .int 0, .ref (h.n + 1 + 1 + 1 + 1 + 1 + 1), .ref (h.n + 1 + 1 + 1 + 1 + 1 + 1 + 1)] H6 = .ok (news1 hs 0 []) H6 := c_made_news hh (by simp [H6, Hm.push_g]) (by simp [H6]) (by simp [H6, Hm.push_g]) (by simp [H6])
  have b3 : run T (d + 2) 22 [.ref (h.n + 1 + 1 + 1 + 1), news1 hs 0 []] H6 = .ok (.bl true) (H6.put (h.n + 5) (.dK [(.inl (hs : Int), news1 hs 0 [])])) := c_hear0 ⟨f.lo, f.lk⟩ (by simp [H6, Hm.push_g]) (by simp [H6, Hm.push_g])
  let X5 : Hm := ((((h.push (.ins 11 [(50, .int hs), (51, .ref (h.n + 2)), (52, .int 0), (53, .int 0), (54, .ref (h.n + 3)), (55, .ref (h.n + 4)), (56, .int 0)])).push (.dK [(.inl (hs : Int), .bl true)])).push (.lst [])).push (.lst [])).push (.ins 1 [(5, .ref (h.n + 5))])
  have e6 : H6.put (h.n + 5) (.dK [(.inl (hs : Int), news1 hs 0 [])]) = ((X5.push (.dK [(.inl (hs : Int), news1 hs 0 [])])).push (.lst [])).push (.lst []) := put_push3 (h := X5)
  rw [e6] at b3
  simp only [H6, X5] at b2 b3
  rw [run_fn (Lib1.f132 (T := T)) rfl rfl]
  simp [P.F_Post___init__, P.b_Post___init__, startW, a1, u_len, u_lenR, Hm.push_g, nw, nw1, hw, dpairs, keyOf, putD, evS_for, toLock_ref, u_planR, u_planLR, forL, u_stays, u_fldW, f.lo, nl, compL, put_push1, put_push2, put_push3, put_push4, put_push5, put_push6, put_push7, put_push8, put_push9, put_push10, put_push11, b1, b2, b3]
  rfl
theorem c_shelf0 (f : Free h) : run T (d + 1) 45 [.ref h.n] (h.push (.ins 3 [])) = .ok .non ((h.push (.ins 3 [(11, .ref (h.n + 1))])).push (.dK [])) := by
  rw [run_fn (Lib1.f45 (T := T)) rfl rfl]
  simp [P.F_Shelf___init__, P.b_Shelf___init__, startW, u_fldW, f.lo, Hm.push_g, put_push2]
def desk0 (n : Nat) (p : PS) : DS := ⟨n, .ref (n + 1), n + 3, n + 4, n + 5, n + 6, n + 7, n + 8, p, [], [], [], []⟩
theorem c_desk0 (f : Free h) {p : PS} : run T (d + 2) 52 [.ref h.n, .ref p.a] (h.push (.ins 6 [])) = .ok .non (((((((((h.push (oD (desk0 h.n p))).push (.ins 3 [(11, .ref (h.n + 2))])).push (.dK [])).push (.lst [])).push (.dT [])).push (.dT [])).push (.lst [])).push (.dT [])).push (.lst [])) := by
  have nl : ∀ (h : Hm), newL [] h = .ok (.ref h.n) (h.push (.lst [])) := fun h => newL_eq (by decide)
  have b1 := c_shelf0 (T := T) (d := d) (h := h.push (.ins 6 [(19, .ref p.a)])) ⟨f.lo, f.lk⟩
  simp only [Hm.push_n] at b1
  rw [run_fn (Lib1.f52 (T := T)) rfl rfl]
  simp [P.F_Desk___init__, P.b_Desk___init__, startW, u_fldW, f.lo, nl, b1, Hm.push_g, put_push1, put_push2, put_push3, put_push4, put_push5, put_push6, put_push7, put_push8, put_push9]
  rfl
end
end Mn
end
section
set_option Elab.async false
set_option linter.all false
set_option maxRecDepth 100000
set_option maxHeartbeats 4000000
namespace Mn
open PySem L2
theorem inv0 {n m hs : Nat} (q : hs < 32) : InvB (desk0 n (post0 m hs)) [] ∧ TX (desk0 n (post0 m hs)) [] [] ∧ (desk0 n (post0 m hs)).tot = 0 := by
  refine ⟨⟨⟨⟨by simp [desk0], q, rfl, by simp [desk0], by simp [desk0], by simp [desk0], by simp [desk0, post0], by simp [desk0], by simp [desk0, post0], by simp [desk0, post0], by simp [desk0, post0], by simp [desk0, post0], by simp [desk0, post0]⟩, rfl, by simp [desk0], by simp⟩, by simp [desk0]⟩, ⟨rfl, rfl, by simp [desk0]⟩, rfl⟩
theorem has_post0 {h : Hm} {hs : Nat} {o1 o2 o3 o4 o5 : O} : Has (((((((((((h.push (oPost (post0 h.n hs))).push o1).push (.lst [])).push o2).push (.ins 1 [(5, .ref (h.n + 5))])).push (.dK [(.inl (hs : Int), news1 hs 0 [])])).push o3).push o4).push (.lst [])).push (.lst [])).push o5) (post0 h.n hs).cells := by
  refine ⟨by simp [PS.cells, post0], fun c m => ?_⟩
  simp only [PS.cells, post0, List.mem_cons, List.not_mem_nil, or_false] at m
  rcases m with rfl | rfl | rfl | rfl | rfl | rfl <;> simp [Hm.push_g, post0]
theorem has_desk0 {h : Hm} {p : PS} {o1 o2 : O} (x : Has h p.cells) : Has (((((((((h.push (oD (desk0 h.n p))).push o1).push o2).push (.lst [])).push (.dT [])).push (.dT [])).push (.lst [])).push (.dT [])).push (.lst [])) (desk0 h.n p).cells := by
  have fr : Fr [] h (((((((((h.push (oD (desk0 h.n p))).push o1).push o2).push (.lst [])).push (.dT [])).push (.dT [])).push (.lst [])).push (.dT [])).push (.lst [])) := by repeat (first | exact Fr.refl | apply Fr.push)
  have y := (Upd.of_fr x fr).has
  have e : (desk0 h.n p).cells = (desk0 h.n p).base ++ p.cells := by
    simp [DS.cells, desk0, scs]
  rw [e]
  refine ⟨?_, fun c m => ?_⟩
  · rw [List.map_append]
    refine nodup_app (by simp [DS.base, desk0]) y.1 fun a ma mb => ?_
    obtain ⟨c, mc, ec⟩ := List.mem_map.mp mb
    have := (x.2 c mc).1
    simp [DS.base, desk0] at ma
    omega
  · rcases List.mem_append.mp m with m | m
    · simp only [DS.base, desk0, List.mem_cons, List.not_mem_nil, or_false] at m
      rcases m with rfl | rfl | rfl | rfl | rfl | rfl | rfl <;> simp [Hm.push_g, desk0, strW', rdsW]
    · exact y.2 c m
end Mn
end
section
set_option Elab.async false
set_option linter.all false
set_option maxRecDepth 100000
set_option maxHeartbeats 4000000
namespace Mn
open PySem L2
theorem flat_ge : ∀ {l : List (List Nat)}, (∀ p, p ∈ l → p ≠ []) → l.length ≤ l.flatten.length
  | [], _ => Nat.le_refl _
  | p :: l, q => by
    have a := flat_ge (l := l) fun y m => q y (List.mem_cons_of_mem _ m)
    have b : 0 < p.length := List.length_pos_iff.mpr (q p List.mem_cons_self)
    simp only [List.flatten_cons, List.length_append, List.length_cons]
    omega
theorem TS.len {hs : Nat} {s : Stm} {u : Str} {b : Bool} (t : TS hs s u b) : s.w.ps.length ≤ u.cps.size + if b = true then 1 else 0 := by
  have pl : s.w.pp.length = s.w.ps.length := by simp [WS.pp]
  have fl : s.w.pp.flatten.length = u.cps.size := by rw [t.fl]; simp
  cases cb : b with
  | false =>
    have cl := t.cl
    rw [cb] at cl
    have := flat_ge (t.ne cl)
    simp
    omega
  | true =>
    have cl := t.cl
    rw [cb] at cl
    obtain ⟨n1, n2⟩ := t.nc cl
    have a := flat_ge n2
    have e : s.w.pp = s.w.pp.dropLast ++ [s.w.pp.getLast n1] := (List.dropLast_concat_getLast n1).symm
    have f : s.w.pp.dropLast.flatten.length ≤ s.w.pp.flatten.length := by
      conv => rhs; rw [e]
      simp
    rw [List.length_dropLast] at a
    simp
    omega
theorem fold_app : ∀ (l : List (Array Nat)) (a : Array Nat), (l.foldl (fun x y => x ++ y) a).toList = a.toList ++ (l.map Array.toList).flatten
  | [], a => by simp
  | b :: l, a => by
    rw [List.foldl_cons, fold_app l (a ++ b)]
    simp
theorem rep_nil : ∀ n : Nat, (List.replicate n ([] : List Nat)).flatten = []
  | 0 => rfl
  | n + 1 => by rw [List.replicate_succ, List.flatten_cons, rep_nil n]; rfl
theorem mul_tl {s : Str} {n : Nat} (hn : 0 < n) : (Txt.mul s n).cps.toList = (List.replicate n s.cps.toList).flatten := by
  unfold Txt.mul
  rw [if_neg (by omega)]
  by_cases q : (((n : Int) == 1) || (s.length == 0)) = true
  · rw [if_pos q]
    rcases Bool.or_eq_true_iff.mp q with z | z
    · have z : (n : Int) = 1 := by simpa using z
      have : n = 1 := by omega
      subst this
      simp
    · have z : s.length = 0 := by simpa using z
      have z : s.cps.size = 0 := z
      have e : s.cps.toList = [] := by
        apply List.eq_nil_of_length_eq_zero
        simpa using z
      rw [e, rep_nil]
  · rw [if_neg q]
    show (List.foldl (fun x1 x2 => x1 ++ x2) #[] (List.replicate (n : Int).toNat s.cps)).toList = _
    rw [fold_app, Int.toNat_natCast, List.map_replicate]
    rfl
theorem strmul {h : Hm} {s : Str} {n : Nat} (hn : n ≤ 1000) (hs : s.length ≤ 1000) : binW .mul (.str s) (.int n) h = .ok (.str (Txt.mul s n)) h := by
  show (if 0 ≤ (n : Int) ∧ (n : Int) ≤ 1000 ∧ s.length ≤ 1000 then R.ok (W.str (Txt.mul s n)) h else .st) = _
  exact if_pos ⟨by omega, by omega, hs⟩
theorem mul_ok {s : Str} {n : Nat} (hn : 0 < n) (hc : ∀ c, c ∈ s.cps.toList → c ∈ codes) : (∀ c, c ∈ (Txt.mul s n).cps.toList → c ∈ codes) ∧ (Txt.mul s n).cps.size = n * s.cps.size := by
  have e := mul_tl (s := s) hn
  refine ⟨fun c m => ?_, ?_⟩
  · rw [e] at m
    obtain ⟨l, ml, mc⟩ := List.mem_flatten.mp m
    rw [List.eq_of_mem_replicate ml] at mc
    exact hc c mc
  · have := congrArg List.length e
    simpa using this
end Mn
end
section
set_option Elab.async false
set_option linter.all false
set_option maxRecDepth 100000
set_option maxHeartbeats 4000000
namespace T69
open PySem L2 Mn
def LT : Str := Str.ofString "post over bad roads, "
theorem lt_codes : ∀ c ∈ LT.cps.toList, c ∈ codes := by decide +kernel
theorem lt_size : LT.cps.size = 21 := by decide +kernel
def lcells (ta ca : Nat) (us : List Str) (bs : List Bool) (D : DS) : List (Nat × O) := (ta, .lst (us.map .str)) :: (ca, .lst (bs.map .bl)) :: D.cells
def loB : Sms := .of [.set (.one 6) (.bin .mul (.con (.str LT)) (.loc 3)), .expr (.meth (.loc 0) 64 (.of [.loc 5, .loc 6])), .expr (.meth (.loc 0) 65 (.of [.loc 5])), .item (.loc 1) (.loc 5) (.bin .add (.sub (.loc 1) (.loc 5)) (.loc 6)), .item (.loc 2) (.loc 5) (.con (.bl true))]
theorem set_item {h : Hm} {a n : Nat} {xs : List W} {w : W} (f : Free h) (hg : h.g a = some (.lst xs)) (hn : n < xs.length) (hl : xs.length ≤ line) : sett (.ref a) (.int n) w h = .ok .non (h.put a (.lst (xs.set n w))) := by
  rw [u_sett, hg]
  dsimp only
  have e3 : ixn xs.length n = some n := by
    unfold ixn
    rw [if_pos (by omega), if_pos (by omega)]
    rfl
  rw [e3]
  exact u_setL (by rw [f.lo]; exact Nat.zero_le _) (by rw [List.length_set]; exact hl)
section
variable {d : Nat} {h : Hm} {D : DS}
theorem c_loB {ta ca : Nat} {us : List Str} {bs : List Bool} (x : Has h (lcells ta ca us bs D)) (f : Free h) {ms : List Msg} (v : InvB D ms) (t : TX D us bs) {k many : Nat} {s : Stm} {u : Str} (m : D.str[k]? = some s) (mu : us[k]? = some u) (mb : bs[k]? = some false) (h0 : 0 < many) (h1 : many ≤ 1000)
    (hl : s.w.ps.length + 21 * many + 1 ≤ 9000) (ht : D.tot + 21 * many + 1 ≤ 20000) (hu : u.cps.size + 21 * many ≤ line) {l4 l6 : Option W} :
    ∃ h' D', evSs (tx.cf (run tx (d + 4))) loB [some (.ref D.a), some (.ref ta), some (.ref ca), some (.int many), l4, some (.int k), l6] h = .nx [some (.ref D.a), some (.ref ta), some (.ref ca), some (.int many), l4, some (.int k), some (.str (Txt.mul LT many))] h' ∧ Upd h h' (lcells ta ca us bs D) (lcells ta ca (us.set k (u ++ Txt.mul LT many)) (bs.set k true) D') ∧ InvB D' ms ∧ TX D' (us.set k (u ++ Txt.mul LT many)) (bs.set k true) ∧ Same D D' ∧ D'.tot ≤ D.tot + 21 * many + 1 ∧ D'.str.length = D.str.length := by
  have lk : k < D.str.length := (List.getElem?_eq_some_iff.mp m).1
  have mo := Mn.mul_ok (s := LT) (n := many) h0 lt_codes
  rw [lt_size] at mo
  obtain ⟨w, ew⟩ : ∃ w, w = Txt.mul LT many := ⟨_, rfl⟩
  have sm : ∀ h2 : Hm, binW .mul (.str LT) (.int many) h2 = .ok (.str w) h2 := fun h2 => by rw [ew]; exact strmul h1 (by show LT.cps.size ≤ 1000; rw [lt_size]; omega)
  rw [← ew] at mo ⊢
  have lnn : line = 16777216 := rfl
  have xD := x.tail.tail
  have ts := t.t k s u false m mu mb
  obtain ⟨h2, ps1, e2, u2, q2⟩ := c_dwrite (T := tx) (d := d) xD f m ts.cl (by omega) (v.com.sb _ _ m).1.wok.p12 mo.1 (by omega)
  have wi := write_inv v t m mu mb mo.1 (by omega) (by omega) q2
  obtain ⟨v1, t1, o1, l1, _⟩ := wi
  have ps1l : ps1.length ≤ s.w.ps.length + w.cps.size := by
    have a : ∀ (L : List Nat) (p : List (List Nat)), (L.foldl (addS s.w.fx) p).length ≤ p.length + L.length := fun L => by
      induction L with
      | nil => intro p; exact Nat.le_refl _
      | cons y L ih =>
        intro p
        have := ih (addS s.w.fx p y)
        have := (addS_len (fx := s.w.fx) (ps := p) (s := y)).2
        simp only [List.foldl_cons, List.length_cons]
        omega
    have b := congrArg List.length q2
    have c := a (w.cps.toList.map sg) s.w.pp
    rw [← b] at c
    simpa [WS.pp] using c
  have f2 := u2.free f
  have m1 : (D.str.set k { s with w := { s.w with ps := ps1 } })[k]? = some { s with w := { s.w with ps := ps1 } } := by simp [lk]
  obtain ⟨h3, ps2, e3, u3, q3⟩ := c_dclose (T := tx) (d := d) u2.has f2 m1 ts.cl (by show ps1.length < line; omega)
  obtain ⟨v2, t2, o2, l2, _⟩ := close_inv v1 t1 m1 mb (by show ps1.length + 1 ≤ 9000; omega) (by omega) q3
  have U2 := (u2.cons x.tail).cons x
  have U3 := (u3.cons U2.has.tail).cons U2.has
  have f3 := U3.free (U2.free f)
  have g3a : h3.g ta = some (.lst (us.map .str)) := (U3.has.2 _ List.mem_cons_self).2
  have U4 := Upd.put (o' := .lst ((us.map W.str).set k (.str (u ++ w)))) U3.has
  have f4 := U4.free f3
  have g4c : (h3.put ta (.lst ((us.map W.str).set k (.str (u ++ w))))).g ca = some (.lst (bs.map .bl)) := (U4.has.2 _ (List.mem_cons_of_mem _ List.mem_cons_self)).2
  have U5 := Upd.mid (o' := .lst ((bs.map W.bl).set k (.bl true))) [(ta, .lst ((us.map W.str).set k (.str (u ++ w))))] U4.has
  have lu : k < (us.map W.str).length := by rw [List.length_map, t.lu]; exact lk
  have lb : k < (bs.map W.bl).length := by rw [List.length_map, t.lb]; exact lk
  have sn := v.com.n
  have it1 := set_item f3 g3a (w := .str (u ++ w)) lu (by rw [List.length_map, t.lu]; omega)
  have it2 := set_item f4 g4c (w := .bl true) lb (by rw [List.length_map, t.lb]; omega)
  have st3 : Mn.sub (.ref ta) (.int k) h3 = some (.str u) := sub_at g3a (by simp [mu])
  have ad : ∀ h9 : Hm, binW .add (.str u) (.str w) h9 = .ok (.str (u ++ w)) h9 := fun h9 => by
    show (if u.length + w.length ≤ line then R.ok (W.str (u ++ w)) h9 else .st) = _
    have a1 : u.length = u.cps.size := rfl
    have a2 : w.length = w.cps.size := rfl
    exact if_pos (by omega)
  have xa := xD.desk.a
  have xa2 : h2.g D.a = _ := u2.has.desk.a
  have lc : ∀ D', lcells ta ca (us.set k (u ++ w)) (bs.set k true) D' = (ta, .lst ((us.map W.str).set k (.str (u ++ w)))) :: (ca, .lst ((bs.map W.bl).set k (.bl true))) :: D'.cells := fun D' => by
    unfold lcells
    rw [List.map_set, List.map_set]
  refine ⟨_, _, ?_, by rw [lc]; exact ((U2.trans U3).trans U4).trans U5, v2, t2, ⟨rfl, rfl, rfl⟩, by omega, by simp⟩
  have e3 : Mn.run tx (d + 4) 56 [.ref D.a, .int k] h2 = .ok .non h3 := e3
  simp [loB, sm, xa, e2, xa2, e3, st3, ad, it1, it2]
end
end T69
end
section
set_option Elab.async false
set_option linter.all false
set_option maxRecDepth 100000
set_option maxHeartbeats 4000000
namespace T69
open PySem L2 Mn
def opE : Ex := .comp (.loc 5) (.one 5) (.rng (.con (.int 0)) (.bi .len (.of [.loc 1]))) (.not (.sub (.loc 2) (.loc 5)))
theorem long_body : b__law_long = .of [.set (.one 4) opE, .for (.one 5) (.val (.cut (.loc 4) (.con .non) (.con (.int 1)))) loB] := rfl
def opnL (bs : List Bool) : List Nat := (List.range bs.length).filter fun k => !bs.getD k false
def sizes (us : List Str) : Nat := (us.map fun u => u.cps.size).sum
section
variable {d : Nat} {h : Hm} {D : DS}
theorem c_opE {us : List Str} {bs : List Bool} (lb : bs.length = us.length) (hn : us.length ≤ 9000) {ta ca : Nat} (ht : h.g ta = some (.lst (us.map .str))) (hc : h.g ca = some (.lst (bs.map .bl))) {l0 l3 l4 l5 l6 : Option W} :
    evE (tx.cf (run tx d)) opE [l0, some (.ref ta), some (.ref ca), l3, l4, l5, l6] h = .ok (.ref h.n) (h.push (.lst (nts (opnL bs)))) := by
  have rg : evI (tx.cf (run tx d)) (.rng (.con (.int 0)) (.bi .len (.of [.loc 1]))) [l0, some (.ref ta), some (.ref ca), l3, l4, l5, l6] h = .ok ⟨(List.range' 0 us.length).map fun i : Nat => W.int i, []⟩ h :=
    evI_rngN (m := 0) (n := us.length) (by simp) (by simp [u_len, u_lenR, ht]) (by omega) (by omega)
  have := comp_fil (C := tx.cf (run tx d)) (e := .loc 5) (c := .not (.sub (.loc 2) (.loc 5))) (t := .one 5) (it := .rng (.con (.int 0)) (.bi .len (.of [.loc 1]))) (k := fun i : Nat => W.int i) (g := fun i : Nat => W.int i) (p := fun k => !bs.getD k false) (gd := []) rfl rg rfl (fun k m => by
    have lk := (List.mem_range'_1.mp m).2
    have s2 : Mn.sub (.ref ca) (.int k) h = some (.bl (bs.getD k false)) := sub_at hc (by
      have : k < bs.length := by omega
      simp [this])
    revert s2
    generalize bs.getD k false = b
    intro s2
    exact ⟨_, rfl, by simp [s2], by simp⟩) (by rw [List.length_range']; unfold line; omega)
  rw [← List.range_eq_range', ← lb] at this
  exact this
theorem c_long {ta ca : Nat} {us : List Str} {bs : List Bool} (x : Has h (lcells ta ca us bs D)) (f : Free h) {ms : List Msg} (v : InvB D ms) (t : TX D us bs) {many : Nat} (h0 : 0 < many) (h1 : many ≤ 1000) (hl : ∀ s, s ∈ D.str → s.w.ps.length + 21 * many + 1 ≤ 9000) (ht : D.tot + 21 * many + 1 ≤ 20000) (hu : ∀ u, u ∈ us → u.cps.size + 21 * many ≤ line) :
    ∃ h' D' us' bs', run tx (d + 5) 306 [.ref D.a, .ref ta, .ref ca, .int many] h = .ok .non h' ∧ Upd h h' (lcells ta ca us bs D) (lcells ta ca us' bs' D') ∧ InvB D' ms ∧ TX D' us' bs' ∧ Same D D' ∧ D'.tot ≤ D.tot + 21 * many + 1 ∧ D'.str.length = D.str.length ∧ sizes us' ≤ sizes us + 21 * many := by
  have sn := v.com.n
  have gt : h.g ta = some (.lst (us.map .str)) := (x.2 _ List.mem_cons_self).2
  have gc : h.g ca = some (.lst (bs.map .bl)) := (x.2 _ (List.mem_cons_of_mem _ List.mem_cons_self)).2
  have e1 : evE (tx.cf (run tx (d + 4))) opE [some (.ref D.a), some (.ref ta), some (.ref ca), some (.int many), none, none, none] h = .ok (.ref h.n) (h.push (.lst (nts (opnL bs)))) := c_opE (by rw [t.lb, t.lu]) (by rw [t.lu]; omega) gt gc
  have u1 : Upd h (h.push (.lst (nts (opnL bs)))) (lcells ta ca us bs D) (lcells ta ca us bs D) := Upd.push x
  have u2 : Upd (h.push (.lst (nts (opnL bs)))) ((h.push (.lst (nts (opnL bs)))).push (.lst (nts ((opnL bs).take 1)))) (lcells ta ca us bs D) ((h.n + 1, .lst (nts ((opnL bs).take 1))) :: lcells ta ca us bs D) := Upd.add u1.has
  obtain ⟨h2, q2⟩ : ∃ h2, h2 = (h.push (.lst (nts (opnL bs)))).push (.lst (nts ((opnL bs).take 1))) := ⟨_, rfl⟩
  rw [← q2] at u2
  have f2 := (u1.trans u2).free f
  have g2 : h2.g (h.n + 1) = some (.lst (nts ((opnL bs).take 1))) := (u2.has.2 _ List.mem_cons_self).2
  have ct : cutV' (.ref h.n) none (some 1) (h.push (.lst (nts (opnL bs)))) = .ok (.ref (h.n + 1)) h2 := by
    rw [u_cutR, u_rdL, Hm.push_same]
    have : cut (nts (opnL bs)) none (some 1) = nts ((opnL bs).take 1) := by
      have := cut_take (nts (opnL bs)) 1
      rw [show nts ((opnL bs).take 1) = (nts (opnL bs)).take 1 from List.map_take]
      exact this
    dsimp only
    rw [this, q2]
    rfl
  have U : Upd h h2 (lcells ta ca us bs D) ((h.n + 1, .lst (nts ((opnL bs).take 1))) :: lcells ta ca us bs D) := u1.trans u2
  have red : ∀ (σ' : List (Option W)) (h' : Hm), forL [(h.n + 1, nts ((opnL bs).take 1))] (fun x σ h => evSs (tx.cf (run tx (d + 4))) loB (σ.set 5 (some x)) h) (nts ((opnL bs).take 1)) [some (.ref D.a), some (.ref ta), some (.ref ca), some (.int many), some (.ref h.n), none, none] h2 = .nx σ' h' → run tx (d + 5) 306 [.ref D.a, .ref ta, .ref ca, .int many] h = .ok .non h' := fun σ' h' e => by
    rw [run_fn f306 rfl rfl]
    simp only [F__law_long, long_body, Sms.of_cons, Sms.of_nil, evSs_cons, evSs_nil]
    rw [show startW 7 [W.ref D.a, .ref ta, .ref ca, .int many] = [some (.ref D.a), some (.ref ta), some (.ref ca), some (.int many), none, none, none] from rfl]
    rw [evS_set1, e1]
    simp only [R.fl_ok, F.seq_nx]
    rw [evS_for]
    simp [cutB, ct, toLock_ref, g2, u_planR, u_planLR]
    rw [e]
    rfl
  cases q : opnL bs with
  | nil =>
    rw [q] at g2 red
    refine ⟨h2, D, us, bs, red [some (.ref D.a), some (.ref ta), some (.ref ca), some (.int many), some (.ref h.n), none, none] h2 ?_, U.tail, v, t, Same.refl, by omega, rfl, by omega⟩
    have g2 : h2.g (h.n + 1) = some (.lst []) := g2
    simp [forL, u_stays, g2]
  | cons k r =>
    rw [q] at g2 U red
    have mk : k ∈ opnL bs := by rw [q]; exact List.mem_cons_self
    obtain ⟨m1, m2⟩ := List.mem_filter.mp mk
    have lb : k < bs.length := List.mem_range.mp m1
    obtain ⟨s, ms'⟩ : ∃ s, D.str[k]? = some s := ⟨_, List.getElem?_eq_getElem (by rw [← t.lb]; exact lb)⟩
    obtain ⟨u, mu'⟩ : ∃ u, us[k]? = some u := ⟨_, List.getElem?_eq_getElem (by rw [t.lu, ← t.lb]; exact lb)⟩
    have mb : bs[k]? = some false := by
      rw [List.getD_eq_getElem?_getD, List.getElem?_eq_getElem lb] at m2
      rw [List.getElem?_eq_getElem lb]
      simpa using m2
    obtain ⟨h3, D3, e3, u3, v3, t3, s3, o3, n3⟩ := c_loB (d := d) (l4 := some (.ref h.n)) (l6 := none) U.has.tail f2 v t ms' mu' mb h0 h1 (hl s (List.mem_of_getElem? ms')) ht (hu u (List.mem_of_getElem? mu'))
    have u4 := u3.cons U.has
    have g4 : h3.g (h.n + 1) = some (.lst (nts [k])) := (u4.has.2 _ List.mem_cons_self).2
    refine ⟨h3, D3, _, _, red [some (.ref D.a), some (.ref ta), some (.ref ca), some (.int many), some (.ref h.n), some (.int k), some (.str (Txt.mul LT many))] h3 ?_, (U.trans u4).tail, v3, t3, s3, o3, n3, ?_⟩
    · have g2 : h2.g (h.n + 1) = some (.lst [.int k]) := g2
      have g4 : h3.g (h.n + 1) = some (.lst [.int k]) := g4
      simp [forL, u_stays, g2, g4, e3]
    · have z := sum_set (f := fun u : Str => u.cps.size) (s' := u ++ Txt.mul LT many) mu'
      have w := (Mn.mul_ok (s := LT) (n := many) h0 lt_codes).2
      have y : (u ++ Txt.mul LT many).cps.size = u.cps.size + (Txt.mul LT many).cps.size := by
        show (u.cps ++ (Txt.mul LT many).cps).size = _
        simp
      rw [lt_size] at w
      unfold sizes
      omega
end
end T69
end
section
set_option Elab.async false
set_option linter.all false
set_option maxRecDepth 100000
set_option maxHeartbeats 4000000
namespace T69
open PySem L2 Mn
def XS : Str := Str.ofString "x"
theorem xs_codes : ∀ c ∈ XS.cps.toList, c ∈ codes := by decide +kernel
theorem xs_size : XS.cps.size = 1 := by decide +kernel
def xB : Sms := .of [.expr (.meth (.loc 0) 64 (.of [.meth (.loc 0) 85 (.of [.loc 1]), .bin .mul (.con (.str XS)) (.bin .add (.con (.int 1)) (.bin .mod (.loc 6) (.con (.int 3))))])), .expr (.bm .append (.loc 2) (.of [.bin .mul (.con (.str XS)) (.bin .add (.con (.int 1)) (.bin .mod (.loc 6) (.con (.int 3))))])), .expr (.bm .append (.loc 3) (.of [.con (.bl false)]))]
section
variable {d : Nat} {h : Hm} {D : DS}
theorem c_xB {ta ca : Nat} {us : List Str} {bs : List Bool} (x : Has h (lcells ta ca us bs D)) (f : Free h) {ms : List Msg} (v : InvB D ms) (t : TX D us bs) (hn : D.str.length < 199) (ht : D.tot + 3 ≤ 20000) {k : Nat} {l4 l5 l7 : Option W} :
    ∃ h' D' w, evSs (tx.cf (run tx (d + 4))) xB [some (.ref D.a), some (.int D.p.hs), some (.ref ta), some (.ref ca), l4, l5, some (.int k), l7] h = .nx [some (.ref D.a), some (.int D.p.hs), some (.ref ta), some (.ref ca), l4, l5, some (.int k), l7] h' ∧ Upd h h' (lcells ta ca us bs D) (lcells ta ca (us ++ [w]) (bs ++ [false]) D') ∧ InvB D' ms ∧ TX D' (us ++ [w]) (bs ++ [false]) ∧ Same D D' ∧ D'.tot ≤ D.tot + 3 ∧ D'.str.length = D.str.length + 1 ∧ w.cps.size ≤ 3 := by
  have lnn : line = 16777216 := rfl
  obtain ⟨n, en⟩ : ∃ n : Nat, n = 1 + k % 3 := ⟨_, rfl⟩
  have mo := Mn.mul_ok (s := XS) (n := n) (by omega) xs_codes
  rw [xs_size] at mo
  obtain ⟨w, ew⟩ : ∃ w, w = Txt.mul XS n := ⟨_, rfl⟩
  have em : ∀ h2 : Hm, binW .mod (.int k) (.int 3) h2 = .ok (.int (k % 3 : Nat)) h2 := fun h2 => w_mod (by decide)
  have e1 : (1 : Int) + ((k % 3 : Nat) : Int) = (n : Int) := by omega
  have sm : ∀ h2 : Hm, binW .mul (.str XS) (.int n) h2 = .ok (.str w) h2 := fun h2 => by rw [ew]; exact strmul (by omega) (by show XS.cps.size ≤ 1000; rw [xs_size]; omega)
  rw [← ew] at mo
  have xD := x.tail.tail
  obtain ⟨h1, eb, u1⟩ := c_begin (T := tx) (d := d + 1) xD f v.com.hs (by omega)
  have v1 := v.begin (n := h.n) (by omega)
  obtain ⟨t1, o1⟩ := begin_tx t (n := h.n)
  have f1 := u1.free f
  have m1 : (D.str ++ [newStm h.n])[D.str.length]? = some (newStm h.n) := by simp
  obtain ⟨h2, ps1, e2, u2, q2⟩ := c_dwrite (T := tx) (d := d) u1.has f1 m1 rfl (by simp [newStm]; omega) (by simp [newStm, WS.pp]) mo.1 (by omega)
  have mu : (us ++ [Str.ofString ""])[D.str.length]? = some (Str.ofString "") := by rw [← t.lu]; simp
  have mb : (bs ++ [false])[D.str.length]? = some false := by rw [← t.lb]; simp
  obtain ⟨v2, t2, o2, _, _⟩ := write_inv v1 t1 m1 mu mb mo.1 (by simp [newStm]; omega) (by rw [o1]; omega) q2
  have eu : (us ++ [Str.ofString ""]).set D.str.length (Str.ofString "" ++ w) = us ++ [w] := by
    rw [← t.lu, List.set_append_right _ _ (Nat.le_refl _)]
    have e0 : (Str.ofString "").cps.toList = [] := by decide +kernel
    have : Str.ofString "" ++ w = w := str_ext (by
      show ((Str.ofString "").cps ++ w.cps).toList = _
      rw [Array.toList_append, e0]
      rfl)
    simp [this]
  rw [eu] at t2
  have U2 := ((u1.trans u2).cons x.tail).cons x
  have F2 := U2.free f
  have U3 := Upd.put (o' := .lst (us.map W.str ++ [.str w])) U2.has
  have F3 := U3.free F2
  have U4 := Upd.mid (o' := .lst (bs.map W.bl ++ [.bl false])) [(ta, .lst (us.map W.str ++ [.str w]))] U3.has
  have g2 : h2.g ta = some (.lst (us.map .str)) := (U2.has.2 _ List.mem_cons_self).2
  have g3 : (h2.put ta (.lst (us.map W.str ++ [.str w]))).g ca = some (.lst (bs.map .bl)) := (U3.has.2 _ (List.mem_cons_of_mem _ List.mem_cons_self)).2
  have lu := t.lu
  have lb := t.lb
  have s3 : setL h2 ta (us.map W.str ++ [.str w]) .non = .ok .non _ := u_setL (by rw [F2.lo]; exact Nat.zero_le _) (by simp; omega)
  have s4 : setL (h2.put ta (.lst (us.map W.str ++ [.str w]))) ca (bs.map W.bl ++ [.bl false]) .non = .ok .non _ := u_setL (by rw [F3.lo]; exact Nat.zero_le _) (by simp; omega)
  have xa := xD.desk.a
  have xa1 : h1.g D.a = _ := u1.has.desk.a
  have lc : ∀ D', lcells ta ca (us ++ [w]) (bs ++ [false]) D' = (ta, .lst (us.map W.str ++ [.str w])) :: (ca, .lst (bs.map W.bl ++ [.bl false])) :: D'.cells := fun D' => by
    unfold lcells
    rw [List.map_append, List.map_append]
    rfl
  refine ⟨_, _, w, ?_, by rw [lc]; exact (U2.trans U3).trans U4, v2, t2, ⟨rfl, rfl, rfl⟩, by rw [o1] at o2; omega, by simp, by omega⟩
  have e2 : Mn.run tx (d + 4) 55 [.ref D.a, .int D.str.length, .str w] h1 = .ok .non h2 := e2
  revert em e1
  generalize k % 3 = r
  intro em e1
  simp [xB, em, e1, sm, xa, eb, e2, u_kindR, g2, u_app, s3, g3, s4]
end
end T69
end
section
set_option Elab.async false
set_option linter.all false
set_option maxRecDepth 100000
set_option maxHeartbeats 4000000
namespace T69
open PySem L2 Mn
section
variable {d : Nat} {h : Hm} {D : DS}
theorem c_xs {ta ca : Nat} {us : List Str} {bs : List Bool} (x : Has h (lcells ta ca us bs D)) (f : Free h) {ms : List Msg} (v : InvB D ms) (t : TX D us bs) {a c : Nat} (hn : D.str.length + c < 199) (ht : D.tot + 3 * c ≤ 20000) {l4 l5 l6 l7 : Option W} :
    ∃ σ' h', forL [] (fun x σ h => evSs (tx.cf (run tx (d + 4))) xB (σ.set 6 (some x)) h) ((List.range' a c).map fun i : Nat => W.int i) [some (.ref D.a), some (.int D.p.hs), some (.ref ta), some (.ref ca), l4, l5, l6, l7] h = .nx σ' h' ∧ ∃ l6' D' us' bs', σ' = [some (.ref D.a), some (.int D.p.hs), some (.ref ta), some (.ref ca), l4, l5, l6', l7] ∧ Upd h h' (lcells ta ca us bs D) (lcells ta ca us' bs' D') ∧ InvB D' ms ∧ TX D' us' bs' ∧ Same D D' ∧ D'.tot ≤ D.tot + 3 * c ∧ D'.str.length = D.str.length + c ∧ sizes us' ≤ sizes us + 3 * c := by
  let I : List Nat → List (Option W) → Hm → Prop := fun ys σ h' => ∃ l6' D' us' bs', σ = [some (.ref D.a), some (.int D.p.hs), some (.ref ta), some (.ref ca), l4, l5, l6', l7] ∧ Upd h h' (lcells ta ca us bs D) (lcells ta ca us' bs' D') ∧ InvB D' ms ∧ TX D' us' bs' ∧ Same D D' ∧ D'.tot + 3 * ys.length ≤ D.tot + 3 * c ∧ D'.str.length + ys.length = D.str.length + c ∧ sizes us' + 3 * ys.length ≤ sizes us + 3 * c
  have hI : I (List.range' a c) [some (.ref D.a), some (.int D.p.hs), some (.ref ta), some (.ref ca), l4, l5, l6, l7] h := ⟨l6, D, us, bs, rfl, Upd.refl x, v, t, Same.refl, by rw [List.length_range']; exact Nat.le_refl _, by rw [List.length_range'], by rw [List.length_range']; exact Nat.le_refl _⟩
  obtain ⟨σ', h', e, ⟨l6', D', us', bs', e1, u, v', t', s', o', n', z'⟩⟩ := forL_ex (gd := []) (k := fun i : Nat => W.int i) (f := fun x σ h => evSs (tx.cf (run tx (d + 4))) xB (σ.set 6 (some x)) h) I (fun _ _ _ _ => rfl) (fun y ys σ h' i => by
        obtain ⟨l6', D', us', bs', rfl, u, v', t', s', o', n', z'⟩ := i
        simp only [List.length_cons] at o' n' z'
        obtain ⟨h2, D2, w, e2, u2, v2, t2, s2, o2, n2, w2⟩ := c_xB (d := d) (k := y) (l4 := l4) (l5 := l5) (l7 := l7) u.has (u.free f) v' t' (by omega) (by omega)
        rw [s'.a, s'.hs] at e2
        refine ⟨_, h2, e2, some (.int y), D2, us' ++ [w], bs' ++ [false], rfl, u.trans u2, v2, t2, s'.trans s2, by omega, by omega, ?_⟩
        have : sizes (us' ++ [w]) = sizes us' + w.cps.size := by simp [sizes]
        omega) hI
  exact ⟨σ', h', e, l6', D', us', bs', e1, u, v', t', s', by simpa using o', by simpa using n', by simpa using z'⟩
end
end T69
end
section
set_option Elab.async false
set_option linter.all false
set_option maxRecDepth 100000
set_option maxHeartbeats 4000000
namespace T69
open PySem L2 Mn
theorem sum_le2 {ι κ : Type} {f : ι → Nat} {g : κ → Nat} : ∀ {l : List ι} {r : List κ}, l.length = r.length → (∀ (k : Nat) a b, l[k]? = some a → r[k]? = some b → f a ≤ g b) → (l.map f).sum ≤ (r.map g).sum
  | [], _, _, _ => Nat.zero_le _
  | a :: l, [], e, _ => by cases e
  | a :: l, b :: r, e, q => by
    have h1 := sum_le2 (l := l) (r := r) (by simpa using e) fun k x y h1 h2 => q (k + 1) x y (by simpa using h1) (by simpa using h2)
    have h2 := q 0 a b rfl rfl
    simp only [List.map_cons, List.sum_cons]
    omega
theorem sum_succ {us : List Str} : (us.map fun u => u.cps.size + 1).sum = sizes us + us.length := by
  induction us with
  | nil => rfl
  | cons u us ih =>
    simp only [List.map_cons, List.sum_cons, List.length_cons, sizes] at *
    omega
theorem unf_sizes {D : DS} {us : List Str} {bs : List Bool} (t : TX D us bs) : D.unf ≤ sizes us + us.length ∧ D.tot ≤ sizes us + us.length := by
  have q : ∀ (k : Nat) (s : Stm) (u : Str), D.str[k]? = some s → us[k]? = some u → s.w.ps.length ≤ u.cps.size + 1 := fun k s u ms mu => by
    have lk : k < bs.length := by
      rw [t.lb]
      exact (List.getElem?_eq_some_iff.mp ms).1
    have := (t.t k s u _ ms mu (List.getElem?_eq_getElem lk)).len
    split at this <;> omega
  rw [← sum_succ]
  exact ⟨sum_le2 t.lu.symm fun k s u ms mu => by have := q k s u ms mu; omega, sum_le2 t.lu.symm q⟩
end T69
end
section
set_option Elab.async false
set_option linter.all false
set_option maxRecDepth 100000
set_option maxHeartbeats 4000000
namespace T69
open PySem L2 Mn
section
variable {d : Nat} {h : Hm}
def smE : Ex := .comp (.bi .len (.of [.loc 7])) (.one 7) (.val (.loc 2)) (.con (.bl true))
theorem c_smE {us : List Str} {ta : Nat} (ht : h.g ta = some (.lst (us.map .str))) (hn : us.length ≤ line) (hu : ∀ u, u ∈ us → u.length ≤ line) {l0 l1 l3 l4 l5 l6 l7 : Option W} :
    evE (tx.cf (run tx d)) smE [l0, l1, some (.ref ta), l3, l4, l5, l6, l7] h = .ok (.ref h.n) (h.push (.lst (us.map fun u => W.int u.cps.size))) := by
  refine comp_map (k := W.str) (gd := [(ta, us.map .str)]) ?_ ?_ (stays_one ht) (fun u m => ⟨_, rfl, by simp, ?_⟩) hn
  · simp [toLock_ref, ht]
  · simp [u_planR, u_planLR, ht]
  · have lt : bi .len [.str u] h = .ok (.int u.cps.size) h := by
      rw [u_len]
      have : lenW (.str u) h = some u.length := if_pos (hu u m)
      rw [this]
      rfl
    simp [lt]
theorem c_sum {us : List Str} {a : Nat} (hg : h.g a = some (.lst (us.map fun u => W.int u.cps.size))) : bi .sum [.ref a] h = .ok (.int (sizes us)) h := by
  rw [u_sum, u_rdL, hg]
  have e : intsL (us.map fun u => W.int u.cps.size) = some (us.map fun u => (u.cps.size : Int)) := intsL_map _ _
  show (match (intsL (us.map fun u => W.int u.cps.size)) with
    | some is => R.ok (W.int is.sum) h
    | _ => .st) = _
  rw [e]
  have := sum_cast (us.map fun u => u.cps.size)
  rw [List.map_map] at this
  show R.ok (W.int (us.map fun u => (u.cps.size : Int)).sum) h = _
  rw [show (us.map fun u => (u.cps.size : Int)).sum = ((sizes us : Nat) : Int) from this]
end
end T69
end
section
set_option Elab.async false
set_option linter.all false
set_option maxRecDepth 100000
set_option maxHeartbeats 4000000
namespace T69
open PySem L2 Mn
def mo1 : Sm := .ite (.cmp .eq (.bin .mod (.loc 4) (.con (.int 4))) (.con (.int 1))) (.of [.expr (.call 306 (.of [.loc 0, .loc 2, .loc 3, .bin .add (.con (.int 60)) (.bin .mod (.bin .fdiv (.loc 4) (.con (.int 4))) (.con (.int 60)))]))]) .nil
def mo2 : Sm := .ite (.cmp .eq (.bin .mod (.loc 4) (.con (.int 8))) (.con (.int 6))) (.of [.for (.one 6) (.rng (.bi .len (.of [.loc 2])) (.con (.int 100))) xB]) .nil
theorem more_body : b__law_more = .of [mo1, mo2, .set (.one 5) (.bin .add (.bi .sum (.of [smE])) (.bi .len (.of [.loc 2]))), .ret (.cmp2 .le .le (.bi .len (.of [.loc 2])) (.meth (.loc 0) 89 .nil) (.bin .add (.bi .len (.of [.loc 2])) (.loc 5)))] := rfl
section
variable {d : Nat} {h : Hm} {D : DS}
theorem c_mo1 {ta ca : Nat} {us : List Str} {bs : List Bool} (x : Has h (lcells ta ca us bs D)) (f : Free h) {ms : List Msg} (v : InvB D ms) (t : TX D us bs) {plan : Int} (hl : ∀ s, s ∈ D.str → s.w.ps.length + 2500 ≤ 9000) (ht : D.tot + 2500 ≤ 20000) (hu : ∀ u, u ∈ us → u.cps.size + 2500 ≤ line) {l1 l5 l6 l7 : Option W} :
    ∃ h' D' us' bs', evS (tx.cf (run tx (d + 5))) mo1 [some (.ref D.a), l1, some (.ref ta), some (.ref ca), some (.int plan), l5, l6, l7] h = .nx [some (.ref D.a), l1, some (.ref ta), some (.ref ca), some (.int plan), l5, l6, l7] h' ∧ Upd h h' (lcells ta ca us bs D) (lcells ta ca us' bs' D') ∧ InvB D' ms ∧ TX D' us' bs' ∧ Same D D' ∧ D'.tot ≤ D.tot + 2500 ∧ D'.str.length = D.str.length ∧ sizes us' ≤ sizes us + 2499 := by
  have m4 : ∀ h2 : Hm, binW .mod (.int plan) (.int 4) h2 = .ok (.int (plan % 4)) h2 := fun h2 => w_mod (by decide)
  by_cases q : plan % 4 = 1
  · obtain ⟨y, ey⟩ : ∃ y : Int, y = plan / 4 := ⟨_, rfl⟩
    have d4 : ∀ h2 : Hm, binW .fdiv (.int plan) (.int 4) h2 = .ok (.int y) h2 := fun h2 => by rw [ey]; exact w_fdiv ⟨by decide, by decide⟩
    have m60 : ∀ h2 : Hm, binW .mod (.int y) (.int 60) h2 = .ok (.int (y % 60)) h2 := fun h2 => w_mod (by decide)
    have b1 := Int.emod_nonneg y (b := 60) (by decide)
    have b2 := Int.emod_lt_of_pos y (b := 60) (by decide)
    obtain ⟨n, en⟩ : ∃ n : Nat, (60 : Int) + y % 60 = n := ⟨(60 + y % 60).toNat, by omega⟩
    obtain ⟨h', D', us', bs', e, u, v', t', s', o', n', z'⟩ := c_long (d := d) (many := n) x f v t (by omega) (by omega) (fun s m => by have := hl s m; omega) (by omega) (fun w m => by have := hu w m; omega)
    refine ⟨h', D', us', bs', ?_, u, v', t', s', by omega, n', by omega⟩
    have c306 : (tx.cf (run tx (d + 5))).has 306 = true := rfl
    simp [mo1, m4, q, d4, m60, en, c306, e]
  · refine ⟨h, D, us, bs, ?_, Upd.refl x, v, t, Same.refl, by omega, rfl, by omega⟩
    simp [mo1, m4, q]
end
end T69
end
section
set_option Elab.async false
set_option linter.all false
set_option maxRecDepth 100000
set_option maxHeartbeats 4000000
namespace T69
open PySem L2 Mn
section
variable {d : Nat} {h : Hm} {D : DS}
theorem c_mo2 {ta ca : Nat} {us : List Str} {bs : List Bool} (x : Has h (lcells ta ca us bs D)) (f : Free h) {ms : List Msg} (v : InvB D ms) (t : TX D us bs) {plan : Int} (hn : D.str.length ≤ 3) (ht : D.tot + 300 ≤ 20000) {l5 l6 l7 : Option W} :
    ∃ h' l6' D' us' bs', evS (tx.cf (run tx (d + 4))) mo2 [some (.ref D.a), some (.int D.p.hs), some (.ref ta), some (.ref ca), some (.int plan), l5, l6, l7] h = .nx [some (.ref D.a), some (.int D.p.hs), some (.ref ta), some (.ref ca), some (.int plan), l5, l6', l7] h' ∧ Upd h h' (lcells ta ca us bs D) (lcells ta ca us' bs' D') ∧ InvB D' ms ∧ TX D' us' bs' ∧ Same D D' ∧ D'.tot ≤ D.tot + 300 ∧ D'.str.length ≤ 100 ∧ sizes us' ≤ sizes us + 300 := by
  have m8 : ∀ h2 : Hm, binW .mod (.int plan) (.int 8) h2 = .ok (.int (plan % 8)) h2 := fun h2 => w_mod (by decide)
  by_cases q : plan % 8 = 6
  · have gt : h.g ta = some (.lst (us.map .str)) := (x.2 _ List.mem_cons_self).2
    have lu := t.lu
    obtain ⟨σ', h', e, l6', D', us', bs', rfl, u, v', t', s', o', n', z'⟩ := c_xs (d := d) (a := us.length) (c := 100 - us.length) (l4 := some (.int plan)) (l5 := l5) (l6 := l6) (l7 := l7) x f v t (by omega) (by omega)
    have rg : evI (tx.cf (run tx (d + 4))) (.rng (.bi .len (.of [.loc 2])) (.con (.int 100))) [some (.ref D.a), some (.int D.p.hs), some (.ref ta), some (.ref ca), some (.int plan), l5, l6, l7] h = .ok ⟨(List.range' us.length (100 - us.length)).map fun i : Nat => W.int i, []⟩ h :=
      evI_rngN (m := us.length) (n := 100) (by simp [u_len, u_lenR, gt]) (by simp) (by omega) (by omega)
    refine ⟨h', l6', D', us', bs', ?_, u, v', t', s', by omega, by omega, by omega⟩
    simp only [Exs.of_cons, Exs.of_nil] at rg
    simp [-q_evI_rng, mo2, m8, q, evS_for, rg, e]
  · refine ⟨h, l6, D, us, bs, ?_, Upd.refl x, v, t, Same.refl, by omega, by omega, by omega⟩
    simp [mo2, m8, q]
end
end T69
end
section
set_option Elab.async false
set_option linter.all false
set_option maxRecDepth 100000
set_option maxHeartbeats 4000000
namespace T69
open PySem L2 Mn
section
variable {d : Nat} {h : Hm} {D : DS}
theorem le_sizes : ∀ {us : List Str} {u : Str}, u ∈ us → u.cps.size ≤ sizes us
  | a :: us, u, m => by
    have e : sizes (a :: us) = a.cps.size + sizes us := by simp [sizes]
    rcases List.mem_cons.mp m with rfl | m
    · omega
    · have := le_sizes m
      omega
theorem c_more {ta ca : Nat} {us : List Str} {bs : List Bool} (x : Has h (lcells ta ca us bs D)) (f : Free h) {ms : List Msg} (v : InvB D ms) (t : TX D us bs) {plan : Int} (hn : D.str.length ≤ 3) (hz : sizes us ≤ 5000) (hl : ∀ s, s ∈ D.str → s.w.ps.length + 2500 ≤ 9000) (ht : D.tot + 3000 ≤ 20000) (hu : ∀ u, u ∈ us → u.cps.size + 2500 ≤ line) :
    ∃ h' D' us' bs', run tx (d + 6) 307 [.ref D.a, .int D.p.hs, .ref ta, .ref ca, .int plan] h = .ok (.bl true) h' ∧ Upd h h' (lcells ta ca us bs D) (lcells ta ca us' bs' D') ∧ InvB D' ms ∧ TX D' us' bs' ∧ Same D D' ∧ D'.str.length ≤ 100 ∧ sizes us' ≤ sizes us + 2799 := by
  have lnn : line = 16777216 := rfl
  obtain ⟨h1, D1, us1, bs1, e1, u1, v1, t1, s1, o1, n1, z1⟩ := c_mo1 (d := d) (plan := plan) (l1 := some (.int D.p.hs)) (l5 := none) (l6 := none) (l7 := none) x f v t hl (by omega) hu
  have f1 := u1.free f
  obtain ⟨h2, l6, D2, us2, bs2, e2, u2, v2, t2, s2, o2, n2, z2⟩ := c_mo2 (d := d + 1) (plan := plan) (l5 := none) (l6 := none) (l7 := none) u1.has f1 v1 t1 (by omega) (by omega)
  rw [s1.a, s1.hs] at e2
  have f2 := u2.free f1
  have s12 := s1.trans s2
  have gt : h2.g ta = some (.lst (us2.map .str)) := (u2.has.2 _ List.mem_cons_self).2
  have lt : ta < h2.n := (u2.has.2 _ List.mem_cons_self).1
  have lu := t2.lu
  have sz : ∀ u, u ∈ us2 → u.length ≤ line := fun u m => by
    have : u.cps.size ≤ sizes us2 := le_sizes m
    show u.cps.size ≤ line
    omega
  have c1 : evE (tx.cf (run tx (d + 5))) smE [some (.ref D.a), some (.int D.p.hs), some (.ref ta), some (.ref ca), some (.int plan), none, l6, none] h2 = _ := c_smE gt (by omega) sz
  obtain ⟨h3, q3⟩ : ∃ h3, h3 = h2.push (.lst (us2.map fun u => W.int u.cps.size)) := ⟨_, rfl⟩
  rw [← q3] at c1
  have c2 : bi .sum [.ref h2.n] h3 = .ok (.int (sizes us2)) h3 := c_sum (by rw [q3]; simp)
  have u3 : Upd h2 h3 (lcells ta ca us2 bs2 D2) (lcells ta ca us2 bs2 D2) := by rw [q3]; exact Upd.push u2.has
  have g3 : h3.g ta = some (.lst (us2.map .str)) := (u3.has.2 _ List.mem_cons_self).2
  have xd := u3.has.tail.tail.desk
  have e3 : run tx (d + 5) 64 [.ref D2.a] h3 = .ok (.int (D2.unf + D2.str.length : Nat)) h3 := c_unfinished xd (u3.free f2).lk (kns v2) (by omega)
  have xa := xd.a
  rw [s12.a] at e3 xa
  have us := (unf_sizes t2).1
  refine ⟨h3, D2, us2, bs2, ?_, (u1.trans u2).trans u3, v2, t2, s12, n2, by omega⟩
  have w1 : (us2.length : Int) ≤ (D2.unf + D2.str.length : Nat) := by omega
  have w2 : ((D2.unf + D2.str.length : Nat) : Int) ≤ us2.length + ((sizes us2 : Int) + us2.length) := by omega
  generalize D2.unf + D2.str.length = N at *
  rw [run_fn f307 rfl rfl]
  simp only [F__law_more, more_body, Sms.of_cons, Sms.of_nil, evSs_cons, evSs_nil]
  rw [show startW 8 [W.ref D.a, .int D.p.hs, .ref ta, .ref ca, .int plan] = [some (.ref D.a), some (.int D.p.hs), some (.ref ta), some (.ref ca), some (.int plan), none, none, none] from rfl, e1]
  simp only [F.seq_nx]
  rw [e2]
  simp [c1, c2, u_len, u_lenR, g3, xa, e3, w1, w2]
end
end T69
end
section
set_option Elab.async false
set_option linter.all false
set_option maxRecDepth 100000
set_option maxHeartbeats 4000000
namespace T69
open PySem L2 Mn
def lw1 : Sm := .set (.row [11, 10, 12]) (.call 302 (.of [.loc 8, .lst (.of [.con (.int 4), .con (.int 3), .con (.int 4)])]))
def lw2 : Sm := .ite (.and (.cmp .lt (.bi .len (.of [.loc 5])) (.con (.int 3))) (.or (.cmp .eq (.loc 11) (.con (.int 0))) (.cmp .eq (.loc 5) (.lst .nil)))) (.of [.ite (.cmp .ne (.meth (.loc 4) 85 (.of [.loc 2])) (.bi .len (.of [.loc 5]))) (.of [.ret (.con (.bl false))]) .nil, .expr (.bm .append (.loc 5) (.of [.con (.str "")])), .expr (.bm .append (.loc 6) (.of [.con (.bl false)]))]) .nil
def lw3 : Sm := .set (.one 10) (.bin .mod (.loc 10) (.bi .len (.of [.loc 5])))
def lw4 : Sm := .ite (.and (.not (.sub (.loc 6) (.loc 10))) (.cmp .lt (.loc 11) (.con (.int 3)))) (.of [.set (.one 13) (.call 303 (.of [.loc 8])), .expr (.meth (.loc 4) 64 (.of [.loc 10, .loc 13])), .item (.loc 5) (.loc 10) (.bin .add (.sub (.loc 5) (.loc 10)) (.loc 13)), .ite (.and (.cmp .ne (.loc 13) (.con (.str ""))) (.cmp .ne (.meth (.loc 4) 86 (.of [.loc 10])) (.tup (.of [.con (.str "way"), .tup (.of [.loc 2]), .lst (.of [.tup (.of [.loc 2, .con (.int 0)])])])))) (.of [.ret (.con (.bl false))]) .nil]) .nil
def lw5 : Sm := .ite (.and (.not (.sub (.loc 6) (.loc 10))) (.cmp .eq (.loc 11) (.con (.int 3)))) (.of [.expr (.meth (.loc 4) 65 (.of [.loc 10])), .item (.loc 6) (.loc 10) (.con (.bl true))]) .nil
def lw6 : Sm := .expr (.call 304 (.of [.loc 3, .loc 4, .loc 12]))
def lw7 : Sm := .ite (.not (.call 308 (.of [.loc 4, .loc 2, .loc 5, .loc 6, .con (.bl false)]))) (.of [.ret (.con (.bl false))]) .nil
def lw8 : Sm := .expr (.bm .append (.loc 7) (.of [.tup (.of [.meth (.loc 4) 90 .nil, .bi .list (.of [.meth (.loc 4) 90 .nil])])]))
def lw9 : Sm := .expr (.bm .append (.meth (.loc 4) 90 .nil) (.of [.tup (.of [.con (.int 0), .con (.int 0), .con (.str ""), .con (.bl true)])]))
def lwB : Sms := .of [lw1, lw2, lw3, lw4, lw5, lw6, lw7, lw8, lw9]
def laI : Ex := .bin .add (.lst (.of [.con (.int 0)])) (.cut (.loc 0) (.con (.int 1)) (.con (.int 41)))
def laE : Ex := .comp (.loc 14) (.one 14) (.val (.loc 7)) (.cmp .ne (.sub (.loc 14) (.con (.int 0))) (.sub (.loc 14) (.con (.int 1))))
def laS : Ex := .comp (.meth (.loc 4) 86 (.of [.loc 15])) (.one 15) (.rng (.con (.int 0)) (.bi .len (.of [.loc 5]))) (.con (.bl true))
def laD : Ex := .comp (.sub (.lst (.of [.con (.str "idle"), .con (.str "done")])) (.bi .int (.of [.loc 16]))) (.one 16) (.val (.loc 6)) (.con (.bl true))
theorem law_body : b_law = .of [.set (.one 1) (.call 300 (.of [.loc 0, .con (.int 0)])), .set (.one 2) (.bin .mod (.loc 1) (.con (.int 32))), .set (.one 3) (.make 11 (.of [.loc 2, .lst .nil])), .set (.one 4) (.make 6 (.of [.loc 3])), .set (.one 5) (.lst .nil), .set (.one 6) (.lst .nil), .set (.one 7) (.lst .nil), .for (.one 8) (.val laI) lwB, .ite (.not (.call 307 (.of [.loc 4, .loc 2, .loc 5, .loc 6, .bin .fdiv (.loc 1) (.con (.int 32))]))) (.of [.ret (.con (.bl false))]) .nil, .expr (.call 305 (.of [.loc 3, .loc 4])), .ite (.cmp .ne laE (.lst .nil)) (.of [.ret (.con (.bl false))]) .nil, .ite (.cmp .ne laS laD) (.of [.ret (.con (.bl false))]) .nil, .set (.one 9) (.and (.cmp .eq (.meth (.loc 4) 89 .nil) (.bi .len (.of [.loc 5]))) (.cmp .isn (.meth (.loc 4) 93 .nil) (.con (.bl true)))), .ret (.and (.loc 9) (.call 308 (.of [.loc 4, .loc 2, .loc 5, .loc 6, .con (.bl true)])))] := rfl
def sg17 (l0 : Option W) (base : Int) (hs pa da ta ca ea : Nat) (c8 c10 c11 c12 c13 : Option W) : List (Option W) := [l0, some (.int base), some (.int hs), some (.ref pa), some (.ref da), some (.ref ta), some (.ref ca), some (.ref ea), c8, none, c10, c11, c12, c13, none, none, none]
section
variable {d : Nat} {h : Hm} {D : DS}
theorem dats_strs {h : Hm} {us : List Str} (q : us.length ≤ 9000) : dats 9999 h (us.map .str) = some (us.map .str) :=
  dats_map (c := 1) (fun u _ m lm => by
    obtain ⟨k, rfl⟩ : ∃ k, m = k + 1 := ⟨m - 1, by omega⟩
    rfl) (by omega)
theorem shaped_mem {ι : Type} {g : ι → PyData} : ∀ {l : List ι}, (∀ y, y ∈ l → (g y).canLay0 = true ∧ (g y).depth ≤ 60) → PyData.canLayAll0 (l.map g) = true ∧ PyData.depthAll (l.map g) ≤ 60
  | [], _ => ⟨rfl, Nat.zero_le _⟩
  | y :: l, q => by
    obtain ⟨a, b⟩ := shaped_mem (l := l) fun z m => q z (List.mem_cons_of_mem _ m)
    obtain ⟨c, e⟩ := q y List.mem_cons_self
    rw [List.map_cons, PyData.depthAll]
    refine ⟨?_, by omega⟩
    show ((g y).canLay0 && PyData.canLayAll0 (l.map g)) = true
    rw [c, a]
    rfl
theorem shaped_listM {ι : Type} {g : ι → PyData} {l : List ι} (q : ∀ y, y ∈ l → (g y).canLay0 = true ∧ (g y).depth ≤ 60) : SeqAt.shaped (.list (l.map g)) = true := by
  obtain ⟨a, b⟩ := shaped_mem q
  unfold SeqAt.shaped
  simp only [Bool.and_eq_true, decide_eq_true_eq]
  refine ⟨a, ?_⟩
  rw [PyData.depth]
  omega
theorem codes_lt : ∀ c ∈ codes, c < 0x110000 := by decide +kernel
theorem str_lay {u : Str} (q : ∀ c, c ∈ u.cps.toList → c < 0x110000) : (PyData.str u).canLay0 = true := by
  show (u.cps.all (· < 0x110000)) = true
  rw [Array.all_eq_true']
  intro c m
  exact decide_eq_true (q c (Array.mem_toList_iff.mpr m))
theorem eq_nilL {a b : Nat} {us : List Str} (ha : h.g a = some (.lst (us.map .str))) (hb : h.g b = some (.lst [])) (q : us.length ≤ 9000) (cs : ∀ u, u ∈ us → ∀ c, c ∈ u.cps.toList → c ∈ codes) : eqW h (.ref a) (.ref b) = some (decide (us = [])) := by
  cases us with
  | nil => 
    rw [eq_same (n := 0) (ds := []) ha hb rfl rfl (by decide +kernel)]
    rfl
  | cons u us =>
    have e1 : dat 10000 h (.ref a) = some (.list ((u :: us).map .str)) := by
      show (match h.g a with
        | some (.lst xs) => (dats 9999 h xs).map PyData.list
        | _ => none) = _
      rw [ha]
      dsimp only
      rw [dats_strs q]
      rfl
    have e2 : dat 10000 h (.ref b) = some (.list []) := by
      show (match h.g b with
        | some (.lst xs) => (dats 9999 h xs).map PyData.list
        | _ => none) = _
      rw [hb]
      rfl
    show (match dat 10000 h (.ref a), dat 10000 h (.ref b) with
      | some d, some e => if SeqAt.shaped d && SeqAt.shaped e then some (PyData.eqv d e) else none
      | _, _ => none) = _
    rw [e1, e2]
    have s1 : SeqAt.shaped (.list ((u :: us).map PyData.str)) = true := shaped_listM fun y my => ⟨str_lay fun c mc => codes_lt c (cs y my c mc), by simp [PyData.depth]⟩
    have s2 : SeqAt.shaped (.list []) = true := by decide +kernel
    dsimp only
    rw [s1, s2]
    simp only [Bool.and_self, if_true]
    have e3 : (u :: us = []) = False := eq_false (by simp)
    simp only [e3, decide_false]
    rfl
theorem TX.cs {us : List Str} {bs : List Bool} (t : TX D us bs) : ∀ u, u ∈ us → ∀ c, c ∈ u.cps.toList → c ∈ codes := fun u m => by
  obtain ⟨k, mk⟩ := List.getElem?_of_mem m
  have lk : k < us.length := (List.getElem?_eq_some_iff.mp mk).1
  have lk2 : k < D.str.length := by rw [← t.lu]; exact lk
  have lk3 : k < bs.length := by rw [t.lb]; exact lk2
  exact (t.t k _ u _ (List.getElem?_eq_getElem lk2) mk (List.getElem?_eq_getElem lk3)).cs
theorem c_lw1 {l0 : Option W} {base : Int} {hs pa da ta ca ea : Nat} {cell : Int} {c10 c11 c12 c13 : Option W} {cs : List (Nat × O)} (x : Has h cs) :
    ∃ h' w s t, evS (tx.cf (run tx (d + 2))) lw1 (sg17 l0 base hs pa da ta ca ea (some (.int cell)) c10 c11 c12 c13) h = .nx (sg17 l0 base hs pa da ta ca ea (some (.int cell)) (some (.int (s : Nat))) (some (.int (w : Nat))) (some (.int (t : Nat))) c13) h' ∧ Upd h h' cs cs ∧ w < 4 ∧ t < 4 := by
  obtain ⟨h1, q1⟩ : ∃ h1, h1 = h.push (.lst (nts [4, 3, 4])) := ⟨_, rfl⟩
  have n1 : h1.n = h.n + 1 := by rw [q1]; rfl
  obtain ⟨row, dr, e⟩ := c_drawn (d := d) (h := h1) (cell := cell) (bl := h.n) (bs := [4, 3, 4]) (by rw [q1]; simp) (by rw [n1]; omega) (by simp) (by simp)
  obtain ⟨w, s, t, rfl⟩ : ∃ w s t, row = [w, s, t] := by
    have := dr.1
    match row, this with
    | [w, s, t], _ => exact ⟨w, s, t, rfl⟩
  have hw := dr.2 0 w 4 rfl rfl
  have ht := dr.2 2 t 4 rfl rfl
  have u1 : Upd h h1 cs cs := by rw [q1]; exact Upd.push x
  have u2 : Upd h1 (h1.push (.lst (nts [w, s, t]))) cs cs := Upd.push u1.has
  refine ⟨_, w, s, t, ?_, u1.trans u2, hw, ht⟩
  have nl : newL [W.int 4, .int 3, .int 4] h = .ok (.ref h.n) h1 := by rw [q1]; exact newL_eq (by decide)
  have c302 : (tx.cf (run tx (d + 2))).has 302 = true := rfl
  have st : ∀ σ : List (Option W), store (.row [11, 10, 12]) (.ref h1.n) σ (h1.push (.lst (nts [w, s, t]))) = some (setSlots [11, 10, 12] (nts [w, s, t]) σ) := fun σ => by
    show (match rdL (.ref h1.n) (h1.push (.lst (nts [w, s, t]))) with
      | some ws => if ws.length = [11, 10, 12].length then some (setSlots [11, 10, 12] ws σ) else none
      | none => none) = _
    rw [u_rdL, Hm.push_same]
    rfl
  have e' : Mn.run tx (d + 2) 302 [W.int cell, W.ref h.n] h1 = .ok (.ref h1.n) (h1.push (.lst (nts [w, s, t]))) := e
  simp only [lw1, evS_set]
  simp [-nts_cons, sg17, nl, c302, e', st]
  rfl
theorem c_lwc {ta ca : Nat} {us : List Str} {bs : List Bool} (x : Has h (lcells ta ca us bs D)) (hn : us.length ≤ 3) (cs : ∀ u, u ∈ us → ∀ c, c ∈ u.cps.toList → c ∈ codes) {w : Nat} {l0 : Option W} {base : Int} {hs pa da ea : Nat} {c8 c10 c12 c13 : Option W} :
    ∃ h', evT (tx.cf (run tx d)) (.and (.cmp .lt (.bi .len (.of [.loc 5])) (.con (.int 3))) (.or (.cmp .eq (.loc 11) (.con (.int 0))) (.cmp .eq (.loc 5) (.lst .nil)))) (sg17 l0 base hs pa da ta ca ea c8 c10 (some (.int w)) c12 c13) h = .ok (decide (us.length < 3 ∧ (w = 0 ∨ us = []))) h' ∧ Upd h h' (lcells ta ca us bs D) (lcells ta ca us bs D) := by
  have gt : h.g ta = some (.lst (us.map .str)) := (x.2 _ List.mem_cons_self).2
  have lt : ta < h.n := (x.2 _ List.mem_cons_self).1
  by_cases q1 : us.length < 3
  · have q1' : (us.length : Int) < 3 := by omega
    by_cases q2 : w = 0
    · subst q2
      refine ⟨h, ?_, Upd.refl x⟩
      simp [sg17, u_len, u_lenR, gt, q1, q1']
    · have nl : newL [] h = .ok (.ref h.n) (h.push (.lst [])) := newL_eq (by decide)
      have e1 : cmpW .eq (.ref ta) (.ref h.n) (h.push (.lst [])) = some (decide (us = [])) := eq_nilL (by rw [Hm.push_lt lt]; exact gt) (by simp) (by omega) cs
      have q2' : ((w : Int) = 0) = False := eq_false (by omega)
      refine ⟨h.push (.lst []), ?_, Upd.push x⟩
      simp [sg17, u_len, u_lenR, gt, q1, q1', q2, q2', nl, e1]
  · have q1' : ¬ (us.length : Int) < 3 := by omega
    refine ⟨h, ?_, Upd.refl x⟩
    simp [sg17, u_len, u_lenR, gt, q1, q1']
theorem c_lw2 {ta ca : Nat} {us : List Str} {bs : List Bool} (x : Has h (lcells ta ca us bs D)) (f : Free h) {ms : List Msg} (v : InvB D ms) (t : TX D us bs) (hn : us.length ≤ 3) {w : Nat} {l0 : Option W} {base : Int} {pa ea : Nat} {c8 c10 c12 c13 : Option W} :
    ∃ h' D' us' bs', evS (tx.cf (run tx (d + 3))) lw2 (sg17 l0 base D.p.hs pa D.a ta ca ea c8 c10 (some (.int w)) c12 c13) h = .nx (sg17 l0 base D.p.hs pa D.a ta ca ea c8 c10 (some (.int w)) c12 c13) h' ∧ Upd h h' (lcells ta ca us bs D) (lcells ta ca us' bs' D') ∧ InvB D' ms ∧ TX D' us' bs' ∧ Same D D' ∧ us'.length ≤ 3 ∧ 0 < us'.length ∧ sizes us' = sizes us := by
  have lnn : line = 16777216 := rfl
  obtain ⟨h1, e1, u1⟩ := c_lwc (d := d + 3) (w := w) (l0 := l0) (base := base) (hs := D.p.hs) (pa := pa) (da := D.a) (ea := ea) (c8 := c8) (c10 := c10) (c12 := c12) (c13 := c13) x hn (TX.cs t)
  have f1 := u1.free f
  have lu := t.lu
  have lb := t.lb
  have split : evS (tx.cf (run tx (d + 3))) lw2 (sg17 l0 base D.p.hs pa D.a ta ca ea c8 c10 (some (.int w)) c12 c13) h = _ := evS_ite
  rw [e1] at split
  by_cases q : us.length < 3 ∧ (w = 0 ∨ us = [])
  · rw [decide_eq_true q] at split
    have xD := u1.has.tail.tail
    obtain ⟨h2, eb, u2⟩ := c_begin (T := tx) (d := d) xD f1 v.com.hs (by omega)
    have v1 := v.begin (n := h1.n) (by omega)
    obtain ⟨t1, o1⟩ := begin_tx t (n := h1.n)
    have U2 := (u2.cons u1.has.tail).cons u1.has
    have F2 := U2.free f1
    have U3 := Upd.put (o' := .lst (us.map W.str ++ [.str ""])) U2.has
    have F3 := U3.free F2
    have U4 := Upd.mid (o' := .lst (bs.map W.bl ++ [.bl false])) [(ta, .lst (us.map W.str ++ [.str ""]))] U3.has
    have g2 : h2.g ta = some (.lst (us.map .str)) := (U2.has.2 _ List.mem_cons_self).2
    have g3 : (h2.put ta (.lst (us.map W.str ++ [.str ""]))).g ca = some (.lst (bs.map .bl)) := (U3.has.2 _ (List.mem_cons_of_mem _ List.mem_cons_self)).2
    have s3 : setL h2 ta (us.map W.str ++ [.str ""]) .non = .ok .non _ := u_setL (by rw [F2.lo]; exact Nat.zero_le _) (by simp; omega)
    have s4 : setL (h2.put ta (.lst (us.map W.str ++ [.str ""]))) ca (bs.map W.bl ++ [.bl false]) .non = .ok .non _ := u_setL (by rw [F3.lo]; exact Nat.zero_le _) (by simp; omega)
    have xa := xD.desk.a
    have lc : ∀ D', lcells ta ca (us ++ [Str.ofString ""]) (bs ++ [false]) D' = (ta, .lst (us.map W.str ++ [.str (Str.ofString "")])) :: (ca, .lst (bs.map W.bl ++ [.bl false])) :: D'.cells := fun D' => by
      unfold lcells
      rw [List.map_append, List.map_append]
      rfl
    have le : (D.str.length : Int) = us.length := by omega
    refine ⟨_, _, us ++ [Str.ofString ""], bs ++ [false], ?_, by rw [lc]; exact ((u1.trans U2).trans U3).trans U4, v1, t1, ⟨rfl, rfl, rfl⟩, by simp; omega, by simp, by
      have e0 : (Str.ofString "").cps.size = 0 := by decide +kernel
      simp [sizes, e0]⟩
    rw [split]
    simp [sg17, xa, eb, u_len, u_lenR, g2, le, u_kindR, u_app, s3, g3, s4]
  · rw [decide_eq_false q] at split
    refine ⟨h1, D, us, bs, ?_, u1, v, t, Same.refl, hn, ?_, rfl⟩
    · rw [split]
      rfl
    · rcases Nat.eq_zero_or_pos us.length with z | z
      · exact absurd ⟨by omega, .inr (List.eq_nil_of_length_eq_zero z)⟩ q
      · exact z
theorem c_lw3 {ta ca : Nat} {us : List Str} {bs : List Bool} (x : Has h (lcells ta ca us bs D)) (h0 : 0 < us.length) {s : Nat} {l0 : Option W} {base : Int} {hs pa da ea : Nat} {c8 c11 c12 c13 : Option W} :
    ∃ k, k < us.length ∧ evS (tx.cf (run tx d)) lw3 (sg17 l0 base hs pa da ta ca ea c8 (some (.int s)) c11 c12 c13) h = .nx (sg17 l0 base hs pa da ta ca ea c8 (some (.int (k : Nat))) c11 c12 c13) h := by
  have gt : h.g ta = some (.lst (us.map .str)) := (x.2 _ List.mem_cons_self).2
  refine ⟨s % us.length, Nat.mod_lt _ h0, ?_⟩
  have e1 : binW .mod (.int s) (.int us.length) h = .ok (.int (s % us.length : Nat)) h := by
    rw [w_mod (by omega)]
    rfl
  revert e1
  generalize s % us.length = k
  intro e1
  simp [lw3, sg17, u_len, u_lenR, gt, e1]
end
end T69
end
section
set_option Elab.async false
set_option linter.all false
set_option maxRecDepth 100000
set_option maxHeartbeats 4000000
namespace T69
open PySem L2 Mn
theorem eq_tups {h : Hm} {xs ys : List W} {ds : List PyData} (dx : dats 9999 h xs = some ds) (dy : dats 9999 h ys = some ds) (sh : SeqAt.shaped (.tuple ds) = true) : eqW h (.tup xs) (.tup ys) = some true := by
  have e : ∀ zs, dats 9999 h zs = some ds → dat 10000 h (.tup zs) = some (.tuple ds) := fun zs q => by
    show (dats 9999 h zs).map PyData.tuple = _
    rw [q]
    rfl
  have cl : (PyData.tuple ds).canLay0 = true := by
    unfold SeqAt.shaped at sh
    simp only [Bool.and_eq_true] at sh
    exact sh.1
  show (match dat 10000 h (.tup xs), dat 10000 h (.tup ys) with
    | some d, some e => if SeqAt.shaped d && SeqAt.shaped e then some (PyData.eqv d e) else none
    | _, _ => none) = _
  rw [e xs dx, e ys dy]
  dsimp only
  rw [sh]
  simp only [Bool.and_self, if_true]
  rw [SeqAt.eqv_refl _ cl]
def wayD (hs : Nat) : List PyData := [.str (Str.ofString "way"), .tuple [.int hs], .list [.tuple [.int hs, .int 0]]]
theorem dats_way {h : Hm} {hs y n : Nat} (hy : h.g y = some (.lst [.tup [.int hs, .int 0]])) : dats (n + 12) h [.str (Str.ofString "way"), .tup [.int hs], .ref y] = some (wayD hs) := by
  simp [dats, dat, hy, wayD]
theorem shaped_way (hs : Nat) : SeqAt.shaped (.tuple (wayD hs)) = true := by
  unfold SeqAt.shaped
  simp only [Bool.and_eq_true, decide_eq_true_eq]
  refine ⟨?_, by simp [wayD, PyData.depth, PyData.depthAll]⟩
  have a : (PyData.str (Str.ofString "way")).canLay0 = true := by decide +kernel
  show ((PyData.str (Str.ofString "way")).canLay0 && (PyData.canLayAll0 [.tuple [.int hs], .list [.tuple [.int hs, .int 0]]])) = true
  rw [a]
  rfl
theorem ne_way {h : Hm} {hs y z : Nat} (hy : h.g y = some (.lst [.tup [.int hs, .int 0]])) (hz : h.g z = some (.lst [.tup [.int hs, .int 0]])) : cmpW .ne (.tup [.str (Str.ofString "way"), .tup [.int hs], .ref y]) (.tup [.str (Str.ofString "way"), .tup [.int hs], .ref z]) h = some false := by
  show (eqW h _ _).map _ = _
  rw [eq_tups (dats_way (n := 9987) hy) (dats_way (n := 9987) hz) (shaped_way hs)]
  rfl
section
variable {d : Nat} {h : Hm} {D : DS}
theorem sz_at {D : DS} {us : List Str} {bs : List Bool} (t : TX D us bs) {k : Nat} {s : Stm} {u : Str} {b : Bool} (m : D.str[k]? = some s) (mu : us[k]? = some u) (mb : bs[k]? = some b) : s.w.ps.length ≤ sizes us + 1 ∧ u.cps.size ≤ sizes us := by
  have a := (t.t k s u b m mu mb).len
  have c := le_sizes (List.mem_of_getElem? mu)
  split at a <;> omega
def lw4B : Sms := .of [.set (.one 13) (.call 303 (.of [.loc 8])), .expr (.meth (.loc 4) 64 (.of [.loc 10, .loc 13])), .item (.loc 5) (.loc 10) (.bin .add (.sub (.loc 5) (.loc 10)) (.loc 13)), .ite (.and (.cmp .ne (.loc 13) (.con (.str ""))) (.cmp .ne (.meth (.loc 4) 86 (.of [.loc 10])) (.tup (.of [.con (.str "way"), .tup (.of [.loc 2]), .lst (.of [.tup (.of [.loc 2, .con (.int 0)])])])))) (.of [.ret (.con (.bl false))]) .nil]
theorem c_lw4B {ta ca : Nat} {us : List Str} {bs : List Bool} (x : Has h (lcells ta ca us bs D)) (f : Free h) {ms : List Msg} (v : InvB D ms) (t : TX D us bs) (hz : sizes us ≤ 5000) (hn : us.length ≤ 3) {k : Nat} (mb : bs[k]? = some false) {cell : Int} {l0 : Option W} {base : Int} {pa ea : Nat} {c11 c12 c13 : Option W} :
    ∃ h' D' us' l13, evSs (tx.cf (run tx (d + 4))) lw4B (sg17 l0 base D.p.hs pa D.a ta ca ea (some (.int cell)) (some (.int k)) c11 c12 c13) h = .nx (sg17 l0 base D.p.hs pa D.a ta ca ea (some (.int cell)) (some (.int k)) c11 c12 l13) h' ∧ Upd h h' (lcells ta ca us bs D) (lcells ta ca us' bs D') ∧ InvB D' ms ∧ TX D' us' bs ∧ Same D D' ∧ us'.length = us.length ∧ sizes us' ≤ sizes us + 30 := by
  have lnn : line = 16777216 := rfl
  have lk : k < D.str.length := by rw [← t.lb]; exact (List.getElem?_eq_some_iff.mp mb).1
  obtain ⟨s, m⟩ : ∃ s, D.str[k]? = some s := ⟨_, List.getElem?_eq_getElem lk⟩
  obtain ⟨u, mu⟩ : ∃ u, us[k]? = some u := ⟨_, List.getElem?_eq_getElem (by rw [t.lu]; exact lk)⟩
  obtain ⟨z1, z2⟩ := sz_at t m mu mb
  have z3 := (unf_sizes t).2
  obtain ⟨w, wc, wl, ew⟩ := c_written (d := d + 1) (h := h) (cell := cell)
  have xD := x.tail.tail
  have ts := t.t k s u false m mu mb
  obtain ⟨h2, ps1, e2, u2, q2⟩ := c_dwrite (T := tx) (d := d) xD f m ts.cl (by omega) (v.com.sb _ _ m).1.wok.p12 wc (by omega)
  obtain ⟨v1, t1, o1, l1, nn⟩ := write_inv v t m mu mb wc (by omega) (by omega) q2
  have U2 := (u2.cons x.tail).cons x
  have f2 := U2.free f
  have g2 : h2.g ta = some (.lst (us.map .str)) := (U2.has.2 _ List.mem_cons_self).2
  have lu : k < (us.map W.str).length := by rw [List.length_map, t.lu]; exact lk
  have it1 := set_item f2 g2 (w := .str (u ++ w)) lu (by rw [List.length_map]; omega)
  have st3 : Mn.sub (.ref ta) (.int k) h2 = some (.str u) := sub_at g2 (by simp [mu])
  have ad : ∀ h9 : Hm, binW .add (.str u) (.str w) h9 = .ok (.str (u ++ w)) h9 := fun h9 => by
    show (if u.length + w.length ≤ line then R.ok (W.str (u ++ w)) h9 else .st) = _
    have a1 : u.length = u.cps.size := rfl
    have a2 : w.length = w.cps.size := rfl
    exact if_pos (by omega)
  obtain ⟨h3, q3⟩ : ∃ h3, h3 = h2.put ta (.lst ((us.map W.str).set k (.str (u ++ w)))) := ⟨_, rfl⟩
  rw [← q3] at it1
  obtain ⟨D1, qD⟩ : ∃ D1 : DS, D1 = { D with str := D.str.set k { s with w := { s.w with ps := ps1 } } } := ⟨_, rfl⟩
  rw [← qD] at u2 v1 t1 o1 U2
  have a1 : D1.a = D.a := by rw [qD]
  have h1s : D1.p.hs = D.p.hs := by rw [qD]
  have lc : lcells ta ca (us.set k (u ++ w)) bs D1 = (ta, .lst ((us.map W.str).set k (.str (u ++ w)))) :: (ca, .lst (bs.map W.bl)) :: D1.cells := by
    unfold lcells
    rw [List.map_set]
  have U3 : Upd h2 h3 (lcells ta ca us bs D1) (lcells ta ca (us.set k (u ++ w)) bs D1) := by
    rw [lc, q3]
    exact Upd.put U2.has
  have U23 := U2.trans U3
  have f3 := U3.free f2
  have sz : sizes (us.set k (u ++ w)) ≤ sizes us + 30 := by
    have z := sum_set (f := fun u : Str => u.cps.size) (s' := u ++ w) mu
    have y : (u ++ w).cps.size = u.cps.size + w.cps.size := by
      show (u.cps ++ w.cps).size = _
      simp
    unfold sizes
    omega
  have xa := xD.desk.a
  have xa2 := u2.has.desk.a
  rw [a1] at xa2
  have xa3 := U3.has.tail.tail.desk.a
  rw [a1] at xa3
  have sm : Same D D1 := by rw [qD]; exact ⟨rfl, rfl, rfl⟩
  have c303 : (tx.cf (run tx (d + 4))).has 303 = true := rfl
  have e2' : Mn.run tx (d + 4) 55 [.ref D.a, .int k, .str w] h = .ok .non h2 := e2
  have ew' : Mn.run tx (d + 4) 303 [.int cell] h = .ok (.str w) h := ew
  by_cases qw : w = Str.ofString ""
  · subst qw
    refine ⟨h3, D1, us.set k (u ++ Str.ofString ""), some (.str (Str.ofString "")), ?_, U23, v1, t1, sm, by simp, sz⟩
    simp [lw4B, sg17, c303, ew', xa, e2', xa2, st3, ad, it1]
  · have m1 : D1.str[k]? = some { s with w := { s.w with ps := ps1 } } := by rw [qD]; simp [lk]
    obtain ⟨h4, y, e4, f4, g4⟩ := c_stand1 (T := tx) (d := d) U3.has.tail.tail f3 v1.com.hs m1 (nn qw)
    have U4 := Upd.of_fr U3.has f4
    obtain ⟨h5, q5⟩ : ∃ h5, h5 = h4.push (.lst [.tup [.int D.p.hs, .int 0]]) := ⟨_, rfl⟩
    have U5 : Upd h4 h5 (lcells ta ca (us.set k (u ++ w)) bs D1) (lcells ta ca (us.set k (u ++ w)) bs D1) := by rw [q5]; exact Upd.push U4.has
    refine ⟨h5, D1, us.set k (u ++ w), some (.str w), ?_, (U23.trans U4).trans U5, v1, t1, sm, by simp, sz⟩
    have nl : newL [W.tup [.int D.p.hs, .int 0]] h4 = .ok (.ref h4.n) h5 := by rw [q5]; exact newL_eq (by simp)
    rw [a1, h1s] at e4
    rw [h1s] at g4
    have g5 : h5.g y = some (.lst [.tup [.int D.p.hs, .int 0]]) := by
      rw [q5, Hm.push_g]
      by_cases q : y = h4.n
      · rw [if_pos q]
      · rw [if_neg q]
        exact g4
    have nw := ne_way (h := h5) (hs := D.p.hs) (y := y) (z := h4.n) g5 (by rw [q5]; simp)
    have e4' : Mn.run tx (d + 4) 57 [.ref D.a, .int k] h3 = _ := e4
    simp [lw4B, sg17, c303, ew', xa, e2', xa2, st3, ad, it1, qw, xa3, e4', nl]
    rw [nw]
    rfl
theorem c_lw4 {ta ca : Nat} {us : List Str} {bs : List Bool} (x : Has h (lcells ta ca us bs D)) (f : Free h) {ms : List Msg} (v : InvB D ms) (t : TX D us bs) (hz : sizes us ≤ 5000) (hn : us.length ≤ 3) {k w : Nat} (lk : k < us.length) {cell : Int} {l0 : Option W} {base : Int} {pa ea : Nat} {c12 c13 : Option W} :
    ∃ h' D' us' l13, evS (tx.cf (run tx (d + 4))) lw4 (sg17 l0 base D.p.hs pa D.a ta ca ea (some (.int cell)) (some (.int k)) (some (.int w)) c12 c13) h = .nx (sg17 l0 base D.p.hs pa D.a ta ca ea (some (.int cell)) (some (.int k)) (some (.int w)) c12 l13) h' ∧ Upd h h' (lcells ta ca us bs D) (lcells ta ca us' bs D') ∧ InvB D' ms ∧ TX D' us' bs ∧ Same D D' ∧ us'.length = us.length ∧ sizes us' ≤ sizes us + 30 := by
  obtain ⟨b, mb⟩ : ∃ b, bs[k]? = some b := ⟨_, List.getElem?_eq_getElem (by rw [t.lb, ← t.lu]; exact lk)⟩
  have gc : h.g ca = some (.lst (bs.map .bl)) := (x.2 _ (List.mem_cons_of_mem _ List.mem_cons_self)).2
  have sc : Mn.sub (.ref ca) (.int k) h = some (.bl b) := sub_at gc (by simp [mb])
  have split : ∀ σ : List (Option W), evS (tx.cf (run tx (d + 4))) lw4 σ h = (evT (tx.cf (run tx (d + 4))) (.and (.not (.sub (.loc 6) (.loc 10))) (.cmp .lt (.loc 11) (.con (.int 3)))) σ h).fl σ fun t h => match t with
    | true => evSs (tx.cf (run tx (d + 4))) lw4B σ h
    | false => evSs (tx.cf (run tx (d + 4))) .nil σ h := fun σ => rfl
  have cond : evT (tx.cf (run tx (d + 4))) (.and (.not (.sub (.loc 6) (.loc 10))) (.cmp .lt (.loc 11) (.con (.int 3)))) (sg17 l0 base D.p.hs pa D.a ta ca ea (some (.int cell)) (some (.int k)) (some (.int w)) c12 c13) h = .ok (!b && decide ((w : Int) < 3)) h := by
    cases b <;> simp [sg17, sc]
  by_cases q : (!b && decide ((w : Int) < 3)) = true
  · have qb : b = false := by
      cases b with
      | false => rfl
      | true => simp at q
    subst qb
    obtain ⟨h', D', us', l13, e, r⟩ := c_lw4B (d := d) (c11 := some (.int w)) (c12 := c12) (c13 := c13) (l0 := l0) (base := base) (pa := pa) (ea := ea) (cell := cell) x f v t hz hn mb
    refine ⟨h', D', us', l13, ?_, r⟩
    rw [split, cond, q]
    exact e
  · refine ⟨h, D, us, c13, ?_, Upd.refl x, v, t, Same.refl, rfl, by omega⟩
    have q : (!b && decide ((w : Int) < 3)) = false := by simpa using q
    rw [split, cond, q]
    rfl
theorem c_lw5 {ta ca : Nat} {us : List Str} {bs : List Bool} (x : Has h (lcells ta ca us bs D)) (f : Free h) {ms : List Msg} (v : InvB D ms) (t : TX D us bs) (hz : sizes us ≤ 5000) (hn : us.length ≤ 3) {k w : Nat} (lk : k < us.length) {l0 : Option W} {base : Int} {pa ea : Nat} {c8 c12 c13 : Option W} :
    ∃ h' D' bs', evS (tx.cf (run tx (d + 4))) lw5 (sg17 l0 base D.p.hs pa D.a ta ca ea c8 (some (.int k)) (some (.int w)) c12 c13) h = .nx (sg17 l0 base D.p.hs pa D.a ta ca ea c8 (some (.int k)) (some (.int w)) c12 c13) h' ∧ Upd h h' (lcells ta ca us bs D) (lcells ta ca us bs' D') ∧ InvB D' ms ∧ TX D' us bs' ∧ Same D D' := by
  have lnn : line = 16777216 := rfl
  have lk2 : k < D.str.length := by rw [← t.lu]; exact lk
  obtain ⟨b, mb⟩ : ∃ b, bs[k]? = some b := ⟨_, List.getElem?_eq_getElem (by rw [t.lb]; exact lk2)⟩
  have gc : h.g ca = some (.lst (bs.map .bl)) := (x.2 _ (List.mem_cons_of_mem _ List.mem_cons_self)).2
  have sc : Mn.sub (.ref ca) (.int k) h = some (.bl b) := sub_at gc (by simp [mb])
  have cond : evT (tx.cf (run tx (d + 4))) (.and (.not (.sub (.loc 6) (.loc 10))) (.cmp .eq (.loc 11) (.con (.int 3)))) (sg17 l0 base D.p.hs pa D.a ta ca ea c8 (some (.int k)) (some (.int w)) c12 c13) h = .ok (!b && decide ((w : Int) = 3)) h := by
    cases b <;> simp [sg17, sc]
  have split : evS (tx.cf (run tx (d + 4))) lw5 (sg17 l0 base D.p.hs pa D.a ta ca ea c8 (some (.int k)) (some (.int w)) c12 c13) h = _ := evS_ite
  rw [cond] at split
  by_cases q : (!b && decide ((w : Int) = 3)) = true
  · have qb : b = false := by
      cases b with
      | false => rfl
      | true => simp at q
    subst qb
    rw [q] at split
    obtain ⟨s, m⟩ : ∃ s, D.str[k]? = some s := ⟨_, List.getElem?_eq_getElem lk2⟩
    obtain ⟨u, mu⟩ : ∃ u, us[k]? = some u := ⟨_, List.getElem?_eq_getElem lk⟩
    obtain ⟨z1, z2⟩ := sz_at t m mu mb
    have z3 := (unf_sizes t).2
    have ts := t.t k s u false m mu mb
    have xD := x.tail.tail
    obtain ⟨h3, ps2, e3, u3, q3⟩ := c_dclose (T := tx) (d := d) xD f m ts.cl (by omega)
    obtain ⟨v2, t2, o2, l2, _⟩ := close_inv v t m mb (by omega) (by omega) q3
    have U3 := (u3.cons x.tail).cons x
    have f3 := U3.free f
    have g3 : h3.g ca = some (.lst (bs.map .bl)) := (U3.has.2 _ (List.mem_cons_of_mem _ List.mem_cons_self)).2
    have U5 := Upd.mid (o' := .lst ((bs.map W.bl).set k (.bl true))) [(ta, .lst (us.map W.str))] U3.has
    have lb : k < (bs.map W.bl).length := by rw [List.length_map, t.lb]; exact lk2
    have it2 := set_item f3 g3 (w := .bl true) lb (by rw [List.length_map, t.lb, ← t.lu]; omega)
    have xa := xD.desk.a
    have lc : ∀ D', lcells ta ca us (bs.set k true) D' = [(ta, .lst (us.map W.str))] ++ (ca, .lst ((bs.map W.bl).set k (.bl true))) :: D'.cells := fun D' => by
      unfold lcells
      rw [List.map_set]
      rfl
    have e3 : Mn.run tx (d + 4) 56 [.ref D.a, .int k] h = .ok .non h3 := e3
    refine ⟨_, _, bs.set k true, ?_, by rw [lc]; exact U3.trans U5, v2, t2, ⟨rfl, rfl, rfl⟩⟩
    rw [split]
    simp [sg17, xa, e3, it2]
  · have q : (!b && decide ((w : Int) = 3)) = false := by simpa using q
    rw [q] at split
    exact ⟨h, D, bs, split, Upd.refl x, v, t, Same.refl⟩
theorem c_lw6 {ta ca : Nat} {us : List Str} {bs : List Bool} (x : Has h (lcells ta ca us bs D)) (f : Free h) {ms : List Msg} (v : InvB D ms) (t : TX D us bs) {n : Nat} (hn : n < 1000) {l0 : Option W} {base : Int} {ea : Nat} {c8 c10 c11 c13 : Option W} :
    ∃ h' D' ms', evS (tx.cf (run tx (d + 11))) lw6 (sg17 l0 base D.p.hs D.p.a D.a ta ca ea c8 c10 c11 (some (.int n)) c13) h = .nx (sg17 l0 base D.p.hs D.p.a D.a ta ca ea c8 c10 c11 (some (.int n)) c13) h' ∧ Upd h h' (lcells ta ca us bs D) (lcells ta ca us bs D') ∧ InvB D' ms' ∧ TX D' us bs ∧ Same D D' := by
  obtain ⟨h', D', ms', e, u, v', s, k, _⟩ := c_ticks (d := d) x.tail.tail f v hn
  refine ⟨h', D', ms', ?_, (u.cons x.tail).cons x, v', t.of_key k, s⟩
  obtain ⟨C, qC⟩ : ∃ C, C = run tx (d + 11) := ⟨_, rfl⟩
  rw [← qC] at e ⊢
  have c304 : (tx.cf C).has 304 = true := rfl
  simp [lw6, sg17, c304, e]
theorem c_lw7 {ta ca : Nat} {us : List Str} {bs : List Bool} (x : Has h (lcells ta ca us bs D)) (f : Free h) {ms : List Msg} (v : InvB D ms) (t : TX D us bs) (hz : sizes us ≤ 10000) {l0 : Option W} {base : Int} {pa ea : Nat} {c8 c10 c11 c12 c13 : Option W} :
    evS (tx.cf (run tx (d + 5))) lw7 (sg17 l0 base D.p.hs pa D.a ta ca ea c8 c10 c11 c12 c13) h = .nx (sg17 l0 base D.p.hs pa D.a ta ca ea c8 c10 c11 c12 c13) h := by
  have gt : h.g ta = some (.lst (us.map .str)) := (x.2 _ List.mem_cons_self).2
  have gc : h.g ca = some (.lst (bs.map .bl)) := (x.2 _ (List.mem_cons_of_mem _ List.mem_cons_self)).2
  have lnn : line = 16777216 := rfl
  have e := c_read_right (d := d) x.tail.tail.desk f.lk v t (fun u m => by
    have := le_sizes m
    show u.cps.size ≤ line
    omega) gt gc (x.2 _ List.mem_cons_self).1 (x.2 _ (List.mem_cons_of_mem _ List.mem_cons_self)).1 (last := false) (fun z => by cases z)
  have c308 : (tx.cf (run tx (d + 5))).has 308 = true := rfl
  have e' : Mn.run tx (d + 5) 308 [.ref D.a, .int D.p.hs, .ref ta, .ref ca, .bl false] h = .ok (.bl true) h := e
  simp [lw7, sg17, c308, e']
end
end T69
end
section
set_option Elab.async false
set_option linter.all false
set_option maxRecDepth 100000
set_option maxHeartbeats 4000000
namespace T69
open PySem L2 Mn
structure Ent where
  a1 : Nat
  a2 : Nat
  ls : List W
def entW (e : Ent) : W := .tup [.ref e.a1, .ref e.a2]
structure EntOk (EC : List (Nat × O)) (e : Ent) : Prop where
  m1 : (e.a1, O.lst e.ls) ∈ EC
  m2 : (e.a2, O.lst e.ls) ∈ EC
  d : ∃ ds, (∀ h, dats 9999 h e.ls = some ds) ∧ SeqAt.shaped (.list ds) = true
def LC (EC : List (Nat × O)) (la : Nat) (cl : List Int) (ea : Nat) (es : List Ent) (ta ca : Nat) (us : List Str) (bs : List Bool) (D : DS) : List (Nat × O) := EC ++ ((la, .lst (cl.map .int)) :: (ea, .lst (es.map entW)) :: lcells ta ca us bs D)
theorem Upd.lc {h h' : Hm} {EC L L' : List (Nat × O)} {p q : Nat × O} (u : Upd h h' L L') (x : Has h (EC ++ (p :: q :: L))) : Upd h h' (EC ++ (p :: q :: L)) (EC ++ (p :: q :: L')) := by
  have y := x.right
  have u2 := (u.cons y.tail).cons y
  have := Upd.inn (A := EC) (B := []) u2 (by simpa using x)
  simpa using this
def heardD (D : DS) (k : Nat) : PyData := match D.str[k]? with
  | some s => .tuple [.int D.p.hs, .int k, .str (txt s.ss), .bool s.rcl]
  | none => .none
theorem unsg_lt (s : Nat) : unsg s < 0x110000 := by
  unfold unsg
  generalize (if s < 5 then s else s - 1) = i
  rw [List.getD_eq_getElem?_getD]
  cases e : codes[i]? with
  | none => decide
  | some c => exact codes_lt c (List.mem_of_getElem? e)
theorem heard_dats {D : DS} (c : Com D) : ∃ ds, (∀ h, dats 9999 h D.heard = some ds) ∧ SeqAt.shaped (.list ds) = true := by
  have hk := hk_len c
  refine ⟨D.hk.map (heardD D), fun h => dats_map (c := 20) (fun k m n ln => ?_) (by omega), shaped_listM fun k m => ?_⟩
  · obtain ⟨s, r, ms, er, _⟩ := heard_at c m
    obtain ⟨n', rfl⟩ : ∃ n', n = n' + 20 := ⟨n - 20, by omega⟩
    unfold heardW heardD
    rw [ms]
    simp [dat, dats]
  · obtain ⟨s, r, ms, er, _⟩ := heard_at c m
    unfold heardD
    rw [ms]
    refine ⟨?_, by simp [PyData.depth, PyData.depthAll]⟩
    have a : (PyData.str (txt s.ss)).canLay0 = true := str_lay fun c mc => by
      have mc : c ∈ s.ss.map unsg := mc
      obtain ⟨y, _, rfl⟩ := List.mem_map.mp mc
      exact unsg_lt y
    show (true && (true && ((PyData.str (txt s.ss)).canLay0 && (true && true)))) = true
    rw [a]
    rfl
section
variable {d : Nat} {h : Hm} {D : DS}
theorem c_lw8 {EC : List (Nat × O)} {la : Nat} {cl : List Int} {ea : Nat} {es : List Ent} {ta ca : Nat} {us : List Str} {bs : List Bool} (x : Has h (LC EC la cl ea es ta ca us bs D)) (f : Free h) {ms : List Msg} (v : InvB D ms) (eo : ∀ e, e ∈ es → EntOk EC e) (ln : es.length < 100) {l0 : Option W} {base : Int} {pa : Nat} {c8 c10 c11 c12 c13 : Option W} :
    ∃ h' e EC', evS (tx.cf (run tx (d + 4))) lw8 (sg17 l0 base D.p.hs pa D.a ta ca ea c8 c10 c11 c12 c13) h = .nx (sg17 l0 base D.p.hs pa D.a ta ca ea c8 c10 c11 c12 c13) h' ∧ Has h' (LC EC' la cl ea (es ++ [e]) ta ca us bs D) ∧ Free h' ∧ (∀ e', e' ∈ es ++ [e] → EntOk EC' e') := by
  have lnn : line = 16777216 := rfl
  have c := v.com
  have hl := hk_len c
  have xd := x.right.tail.tail.tail.tail
  have e1 := c_heard (T := tx) (d := d) xd.desk f.lk c
  obtain ⟨h1, q1⟩ : ∃ h1, h1 = h.push (.lst D.heard) := ⟨_, rfl⟩
  rw [← q1] at e1
  have U1 : Upd h h1 (LC EC la cl ea es ta ca us bs D) ((h.n, .lst D.heard) :: LC EC la cl ea es ta ca us bs D) := by rw [q1]; exact Upd.add x
  have f1 := U1.free f
  have x1 : Has h1 D.cells := U1.has.tail.right.tail.tail.tail.tail
  have e2 := c_heard (T := tx) (d := d) x1.desk f1.lk c
  obtain ⟨h2, q2⟩ : ∃ h2, h2 = h1.push (.lst D.heard) := ⟨_, rfl⟩
  rw [← q2] at e2
  have U2 : Upd h1 h2 ((h.n, .lst D.heard) :: LC EC la cl ea es ta ca us bs D) ((h.n, .lst D.heard) :: LC EC la cl ea es ta ca us bs D) := by rw [q2]; exact Upd.push U1.has
  obtain ⟨h3, q3⟩ : ∃ h3, h3 = h2.push (.lst D.heard) := ⟨_, rfl⟩
  have U3 : Upd h2 h3 ((h.n, .lst D.heard) :: LC EC la cl ea es ta ca us bs D) ((h2.n, .lst D.heard) :: (h.n, .lst D.heard) :: LC EC la cl ea es ta ca us bs D) := by rw [q3]; exact Upd.add U2.has
  have f3 := U3.free (U2.free f1)
  have b3 : bi .list [.ref h1.n] h2 = .ok (.ref h2.n) h3 := by
    rw [u_listR, q2, Hm.push_same]
    dsimp only
    rw [q3, q2]
    rfl
  have x3 := U3.has
  unfold LC at x3
  have x3' : Has h3 (((h2.n, O.lst D.heard) :: (h.n, O.lst D.heard) :: EC ++ [(la, O.lst (cl.map .int))]) ++ (ea, .lst (es.map entW)) :: lcells ta ca us bs D) := by simpa using x3
  have g3 : h3.g ea = some (.lst (es.map entW)) := x3'.get (List.mem_append_right _ List.mem_cons_self)
  have U4 := Upd.mid (o' := .lst (es.map entW ++ [.tup [.ref h.n, .ref h2.n]])) _ x3'
  have s4 : setL h3 ea (es.map entW ++ [.tup [.ref h.n, .ref h2.n]]) .non = .ok .non _ := u_setL (by rw [f3.lo]; exact Nat.zero_le _) (by simp; omega)
  refine ⟨_, ⟨h.n, h2.n, D.heard⟩, (h2.n, O.lst D.heard) :: (h.n, O.lst D.heard) :: EC, ?_, ?_, U4.free f3, fun e' m => ?_⟩
  · have xa := xd.desk.a
    have xa1 := x1.desk.a
    have g1 : h2.g h.n = some (.lst D.heard) := (U2.has.2 _ List.mem_cons_self).2
    have g0 : h.g ea = some (.lst (es.map entW)) := x.right.tail.get List.mem_cons_self
    simp [lw8, sg17, u_kindR, u_app, g0, g3, xa, e1, xa1, e2, b3, s4]
  · have := U4.has
    simpa [LC, entW] using this
  · rcases List.mem_append.mp m with m | m
    · obtain ⟨a, b, c⟩ := eo e' m
      exact ⟨List.mem_cons_of_mem _ (List.mem_cons_of_mem _ a), List.mem_cons_of_mem _ (List.mem_cons_of_mem _ b), c⟩
    · have : e' = ⟨h.n, h2.n, D.heard⟩ := by simpa using m
      subst this
      exact ⟨List.mem_cons_of_mem _ List.mem_cons_self, List.mem_cons_self, heard_dats c⟩
theorem c_lw9 {cs : List (Nat × O)} (x : Has h cs) (xd : DFacts h D) (f : Free h) (c : Com D) {l0 : Option W} {base : Int} {pa ta ca ea : Nat} {c8 c10 c11 c12 c13 : Option W} :
    ∃ h', evS (tx.cf (run tx (d + 4))) lw9 (sg17 l0 base D.p.hs pa D.a ta ca ea c8 c10 c11 c12 c13) h = .nx (sg17 l0 base D.p.hs pa D.a ta ca ea c8 c10 c11 c12 c13) h' ∧ Upd h h' cs cs := by
  have lnn : line = 16777216 := rfl
  have hl := hk_len c
  have e1 := c_heard (T := tx) (d := d) xd f.lk c
  have xa := xd.a
  have lh : D.heard.length ≤ 200 := by
    unfold DS.heard
    rw [List.length_map]
    exact hl
  have s4 : setL (h.push (.lst D.heard)) h.n (D.heard ++ [.tup [.int 0, .int 0, .str "", .bl true]]) .non = .ok .non ((h.push (.lst D.heard)).put h.n (.lst (D.heard ++ [.tup [.int 0, .int 0, .str "", .bl true]]))) := u_setL (by rw [Hm.push_lo, f.lo]; exact Nat.zero_le _) (by simp; omega)
  rw [put_push1] at s4
  refine ⟨h.push (.lst (D.heard ++ [.tup [.int 0, .int 0, .str "", .bl true]])), ?_, Upd.push x⟩
  simp [lw9, sg17, u_kindR, u_app, xa, e1, s4]
end
end T69
end
section
set_option Elab.async false
set_option linter.all false
set_option maxRecDepth 100000
set_option maxHeartbeats 4000000
namespace T69
open PySem L2 Mn
theorem sizes_le {us us' : List Str} {n : Nat} (q : sizes us' ≤ sizes us + n) {m : Nat} (z : sizes us + n ≤ m) : sizes us' ≤ m := Nat.le_trans q z
structure LInv (la : Nat) (cl : List Int) (l0 : Option W) (base : Int) (hs pa da ta ca ea : Nat) (n : Nat) (σ : List (Option W)) (h : Hm) (D : DS) (ms : List Msg) (us : List Str) (bs : List Bool) (es : List Ent) (EC : List (Nat × O)) : Prop where
  s : ∃ c8 c10 c11 c12 c13, σ = sg17 l0 base hs pa da ta ca ea c8 c10 c11 c12 c13
  x : Has h (LC EC la cl ea es ta ca us bs D)
  f : Free h
  v : InvB D ms
  t : TX D us bs
  eo : ∀ e, e ∈ es → EntOk EC e
  ln : us.length ≤ 3
  z : sizes us + 30 * n ≤ 1500
  hs : D.p.hs = hs
  pa : D.p.a = pa
  da : D.a = da
  es : es.length + n ≤ 50
section
variable {d : Nat} {h : Hm} {D : DS}
theorem c_lwB {la : Nat} {cl : List Int} {l0 : Option W} {base : Int} {hs pa da ta ca ea n : Nat} {σ : List (Option W)} {ms : List Msg} {us : List Str} {bs : List Bool} {es : List Ent} {EC : List (Nat × O)} (i : LInv la cl l0 base hs pa da ta ca ea (n + 1) σ h D ms us bs es EC) {cell : Int} :
    ∃ σ' h' D' ms' us' bs' es' EC', evSs (tx.cf (run tx (d + 11))) lwB (σ.set 8 (some (.int cell))) h = .nx σ' h' ∧ LInv la cl l0 base hs pa da ta ca ea n σ' h' D' ms' us' bs' es' EC' := by
  obtain ⟨⟨c8, c10, c11, c12, c13, rfl⟩, x, f, v, t, eo, ln, z, rfl, rfl, rfl, el⟩ := i
  have e0 : (sg17 l0 base D.p.hs D.p.a D.a ta ca ea c8 c10 c11 c12 c13).set 8 (some (.int cell)) = sg17 l0 base D.p.hs D.p.a D.a ta ca ea (some (.int cell)) c10 c11 c12 c13 := rfl
  rw [e0]
  obtain ⟨h1, w, s, n4, e1, u1, lw, l4⟩ := c_lw1 (d := d + 9) (l0 := l0) (base := base) (hs := D.p.hs) (pa := D.p.a) (da := D.a) (ta := ta) (ca := ca) (ea := ea) (cell := cell) (c10 := c10) (c11 := c11) (c12 := c12) (c13 := c13) x
  have f1 := u1.free f
  obtain ⟨h2, D2, us2, bs2, e2, u2, v2, t2, s2, n2, p2, z2⟩ := c_lw2 (d := d + 8) (w := w) (l0 := l0) (base := base) (pa := D.p.a) (ea := ea) (c8 := some (.int cell)) (c10 := some (.int s)) (c12 := some (.int n4)) (c13 := c13) u1.has.right.tail.tail f1 v t ln
  have U2 := Upd.lc u2 u1.has
  have f2 := U2.free f1
  obtain ⟨k, lk, e3⟩ := c_lw3 (d := d + 11) (s := s) (l0 := l0) (base := base) (hs := D.p.hs) (pa := D.p.a) (da := D.a) (ea := ea) (c8 := some (.int cell)) (c11 := some (.int w)) (c12 := some (.int n4)) (c13 := c13) u2.has p2
  obtain ⟨h4, D4, us4, l13, e4, u4, v4, t4, s4, n4', z4⟩ := c_lw4 (d := d + 7) (w := w) (l0 := l0) (base := base) (pa := D.p.a) (ea := ea) (cell := cell) (c12 := some (.int n4)) (c13 := c13) u2.has f2 v2 t2 (by omega) n2 lk
  rw [s2.a, s2.hs] at e4
  have U4 := Upd.lc u4 U2.has
  have f4 := U4.free f2
  have s24 := s2.trans s4
  obtain ⟨h5, D5, bs5, e5, u5, v5, t5, s5⟩ := c_lw5 (d := d + 7) (w := w) (l0 := l0) (base := base) (pa := D.p.a) (ea := ea) (c8 := some (.int cell)) (c12 := some (.int n4)) (c13 := l13) u4.has f4 v4 t4 (by omega) (by omega) (by omega : k < us4.length)
  rw [s24.a, s24.hs] at e5
  have U5 := Upd.lc u5 U4.has
  have f5 := U5.free f4
  have s25 := s24.trans s5
  obtain ⟨h6, D6, ms6, e6, u6, v6, t6, s6⟩ := c_lw6 (d := d) (n := n4) (l0 := l0) (base := base) (ea := ea) (c8 := some (.int cell)) (c10 := some (.int k)) (c11 := some (.int w)) (c13 := l13) u5.has f5 v5 t5 (by omega)
  rw [s25.a, s25.hs, s25.pa] at e6
  have U6 := Upd.lc u6 U5.has
  have f6 := U6.free f5
  have s26 := s25.trans s6
  have e7 := c_lw7 (d := d + 6) (l0 := l0) (base := base) (pa := D.p.a) (ea := ea) (c8 := some (.int cell)) (c10 := some (.int k)) (c11 := some (.int w)) (c12 := some (.int n4)) (c13 := l13) u6.has f6 v6 t6 (by omega)
  rw [s26.a, s26.hs] at e7
  obtain ⟨h8, e, EC8, e8, x8, f8, eo8⟩ := c_lw8 (d := d + 7) (l0 := l0) (base := base) (pa := D.p.a) (c8 := some (.int cell)) (c10 := some (.int k)) (c11 := some (.int w)) (c12 := some (.int n4)) (c13 := l13) U6.has f6 v6 eo (by omega)
  rw [s26.a, s26.hs] at e8
  obtain ⟨h9, e9, U9⟩ := c_lw9 (d := d + 7) (D := D6) (l0 := l0) (base := base) (pa := D.p.a) (ta := ta) (ca := ca) (ea := ea) (c8 := some (.int cell)) (c10 := some (.int k)) (c11 := some (.int w)) (c12 := some (.int n4)) (c13 := l13) x8 x8.right.tail.tail.tail.tail.desk f8 v6.com
  rw [s26.a, s26.hs] at e9
  refine ⟨_, h9, D6, ms6, us4, bs5, es ++ [e], EC8, ?_, ⟨⟨some (.int cell), some (.int k), some (.int w), some (.int n4), l13, rfl⟩, U9.has, U9.free f8, v6, t6, eo8, by omega, by omega, s26.hs, s26.pa, s26.a, by simp; omega⟩⟩
  simp only [lwB, Sms.of_cons, Sms.of_nil, evSs_cons, evSs_nil]
  rw [e1, F.seq_nx, e2, F.seq_nx, e3, F.seq_nx, e4, F.seq_nx, e5, F.seq_nx, e6, F.seq_nx, e7, F.seq_nx, e8, F.seq_nx, e9, F.seq_nx]
theorem c_loop {la : Nat} {cl : List Int} {l0 : Option W} {base : Int} {hs pa da ta ca ea : Nat} {ys : List Int} {σ : List (Option W)} {h : Hm} {D : DS} {ms : List Msg} {us : List Str} {bs : List Bool} {es : List Ent} {EC : List (Nat × O)} (i : LInv la cl l0 base hs pa da ta ca ea ys.length σ h D ms us bs es EC) :
    ∃ σ' h' D' ms' us' bs' es' EC', forL [(la, cl.map .int)] (fun x σ h => evSs (tx.cf (run tx (d + 11))) lwB (σ.set 8 (some x)) h) (ys.map W.int) σ h = .nx σ' h' ∧ LInv la cl l0 base hs pa da ta ca ea 0 σ' h' D' ms' us' bs' es' EC' := by
  let I : List Int → List (Option W) → Hm → Prop := fun ys σ h => ∃ D ms us bs es EC, LInv la cl l0 base hs pa da ta ca ea ys.length σ h D ms us bs es EC
  obtain ⟨σ', h', e, ⟨D', ms', us', bs', es', EC', j⟩⟩ := forL_ex (gd := [(la, cl.map .int)]) (k := W.int) (f := fun x σ h => evSs (tx.cf (run tx (d + 11))) lwB (σ.set 8 (some x)) h) I (fun ys σ h i => by
    obtain ⟨D, ms, us, bs, es, EC, j⟩ := i
    exact stays_one (j.x.right.get List.mem_cons_self)) (fun y ys σ h i => by
    obtain ⟨D, ms, us, bs, es, EC, j⟩ := i
    obtain ⟨σ', h', D', ms', us', bs', es', EC', e, j'⟩ := c_lwB (d := d) (cell := y) (n := ys.length) j
    exact ⟨σ', h', e, D', ms', us', bs', es', EC', j'⟩) (ys := ys) ⟨D, ms, us, bs, es, EC, i⟩
  exact ⟨σ', h', D', ms', us', bs', es', EC', e, j⟩
end
end T69
end
section
set_option Elab.async false
set_option linter.all false
set_option maxRecDepth 100000
set_option maxHeartbeats 4000000
namespace T69
open PySem L2 Mn
theorem compL_ex {ι : Type} {gd : List (Nat × List W)} {f : W → Hm → R (Option W)} {k g : ι → W} (I : Hm → Prop) (hst : ∀ h, I h → stays h gd = true) : ∀ {ys : List ι} {h : Hm}, (∀ y, y ∈ ys → ∀ h, I h → ∃ h', f (k y) h = .ok (some (g y)) h' ∧ I h') → I h → ∃ h', compL gd f (ys.map k) h = .ok (ys.map g) h' ∧ I h'
  | [], h, _, i => ⟨h, by rw [List.map_nil, compL, if_pos (hst _ i)]; rfl, i⟩
  | y :: ys, h, q, i => by
    obtain ⟨h1, e1, i1⟩ := q y List.mem_cons_self h i
    obtain ⟨h2, e2, i2⟩ := compL_ex I hst (ys := ys) (fun z m => q z (List.mem_cons_of_mem _ m)) i1
    refine ⟨h2, ?_, i2⟩
    rw [List.map_cons, compL, if_pos (hst _ i), e1]
    simp only [R.noex_ok, R.bind_ok]
    rw [e2]
    rfl
section
variable {d : Nat} {h : Hm} {D : DS}
def sw (b : Bool) : Str := if b = true then Str.ofString "done" else Str.ofString "idle"
theorem c_laE {EC : List (Nat × O)} {cs : List (Nat × O)} {ea : Nat} {es : List Ent} (x : Has h (EC ++ cs)) (hg : h.g ea = some (.lst (es.map entW))) (eo : ∀ e, e ∈ es → EntOk EC e) (ln : es.length < 100) {l0 : Option W} {base : Int} {hs pa da ta ca : Nat} {c8 c10 c11 c12 c13 : Option W} :
    evE (tx.cf (run tx d)) laE (sg17 l0 base hs pa da ta ca ea c8 c10 c11 c12 c13) h = .ok (.ref h.n) (h.push (.lst [])) := by
  have := comp_fil (C := tx.cf (run tx d)) (h := h) (e := .loc 14) (c := .cmp .ne (.sub (.loc 14) (.con (.int 0))) (.sub (.loc 14) (.con (.int 1)))) (t := .one 14) (it := .val (.loc 7)) (σ := sg17 l0 base hs pa da ta ca ea c8 c10 c11 c12 c13) (ys := es) (k := entW) (g := entW) (p := fun _ => false) (gd := [(ea, es.map entW)])
    (by simp [sg17, toLock_ref, hg]) (by simp [sg17, u_planR, u_planLR, hg]) (stays_one hg) (fun e m => by
      obtain ⟨m1, m2, ds, q1, q2⟩ := eo e m
      have g1 : h.g e.a1 = some (.lst e.ls) := x.get (List.mem_append_left _ m1)
      have g2 : h.g e.a2 = some (.lst e.ls) := x.get (List.mem_append_left _ m2)
      have ne : cmpW .ne (.ref e.a1) (.ref e.a2) h = some false := by
        show (eqW h (.ref e.a1) (.ref e.a2)).map _ = _
        rw [eq_same (n := 0) g1 g2 (q1 h) (q1 h) q2]
        rfl
      exact ⟨_, rfl, by simp [sg17, entW, u_subT, ixn, ne], by simp [sg17]⟩) (by unfold line; omega)
  have e0 : es.filter (fun _ => false) = [] := by simp
  rw [e0] at this
  exact this
theorem ne_nils {a b : Nat} (ha : h.g a = some (.lst [])) (hb : h.g b = some (.lst [])) : cmpW .ne (.ref a) (.ref b) h = some false := by
  show (eqW h (.ref a) (.ref b)).map _ = _
  rw [eq_same (n := 0) (ds := []) ha hb rfl rfl (by decide +kernel)]
  rfl
theorem c_laS {cs : List (Nat × O)} (xd : DFacts h D) (c : Com D) {us : List Str} {bs : List Bool} (t : TX D us bs) (z : D.unf = 0) {ta : Nat} (ht : h.g ta = some (.lst (us.map .str))) {l0 : Option W} {base : Int} {hs pa ca ea : Nat} {c8 c10 c11 c12 c13 : Option W} :
    evE (tx.cf (run tx (d + 4))) laS (sg17 l0 base hs pa D.a ta ca ea c8 c10 c11 c12 c13) h = .ok (.ref h.n) (h.push (.lst (bs.map fun b => .str (sw b)))) := by
  have lu := t.lu
  have lb := t.lb
  have cn := c.n
  have rg : evI (tx.cf (run tx (d + 4))) (.rng (.con (.int 0)) (.bi .len (.of [.loc 5]))) (sg17 l0 base hs pa D.a ta ca ea c8 c10 c11 c12 c13) h = .ok ⟨(List.range' 0 us.length).map fun i : Nat => W.int i, []⟩ h :=
    evI_rngN (m := 0) (n := us.length) (by simp) (by simp [sg17, u_len, u_lenR, ht]) (by omega) (by omega)
  have := comp_map (C := tx.cf (run tx (d + 4))) (h := h) (e := .meth (.loc 4) 86 (.of [.loc 15])) (c := .con (.bl true)) (t := .one 15) (it := .rng (.con (.int 0)) (.bi .len (.of [.loc 5]))) (σ := sg17 l0 base hs pa D.a ta ca ea c8 c10 c11 c12 c13) (ys := List.range' 0 us.length) (k := fun i : Nat => W.int i) (g := fun i => .str (sw (bs.getD i false))) (gd := [])
    rfl rg rfl (fun k m => by
      have lk := (List.mem_range'_1.mp m).2
      have lk2 : k < D.str.length := by omega
      have lk3 : k < bs.length := by omega
      obtain ⟨s, ms⟩ : ∃ s, D.str[k]? = some s := ⟨_, List.getElem?_eq_getElem lk2⟩
      obtain ⟨u, mu⟩ : ∃ u, us[k]? = some u := ⟨_, List.getElem?_eq_getElem (by omega)⟩
      obtain ⟨b, mb⟩ : ∃ b, bs[k]? = some b := ⟨_, List.getElem?_eq_getElem lk3⟩
      have sb := (c.sb _ _ ms).1
      have q := unf_zero z (List.mem_of_getElem? ms)
      have e := c_stand0 (T := tx) (d := d) xd ms (by have := sb.wok.kn; omega)
      have cl := (t.t k s u b ms mu mb).cl
      rw [cl] at e
      have gd : bs.getD k false = b := by rw [List.getD_eq_getElem?_getD, mb]; rfl
      have xa := xd.a
      have e' : Mn.run tx (d + 4) 57 [.ref D.a, .int k] h = .ok (.str (sw b)) h := e
      refine ⟨_, rfl, by simp [sg17], ?_⟩
      rw [gd]
      simp [sg17, xa, e']) (by rw [List.length_range']; unfold line; omega)
  refine this.trans ?_
  have eb : (List.range' 0 us.length).map (fun i => W.str (sw (bs.getD i false))) = bs.map fun b => .str (sw b) := by
    have : us.length = bs.length := by omega
    rw [this, ← List.range_eq_range']
    apply List.ext_getElem?
    intro i
    by_cases q : i < bs.length
    · simp [q]
    · simp [q]
  rw [eb]
theorem c_laD {bs : List Bool} (f : Free h) {cs : List (Nat × O)} (x : Has h cs) {ca : Nat} (hc : (ca, O.lst (bs.map .bl)) ∈ cs) (ln : bs.length ≤ 200) {l0 : Option W} {base : Int} {hs pa da ta ea : Nat} {c8 c10 c11 c12 c13 : Option W} :
    ∃ h', evE (tx.cf (run tx d)) laD (sg17 l0 base hs pa da ta ca ea c8 c10 c11 c12 c13) h = .ok (.ref h'.n) (h'.push (.lst (bs.map fun b => .str (sw b)))) ∧ Upd h h' cs cs := by
  have g0 := x.get hc
  obtain ⟨h', e, u⟩ := compL_ex (gd := [(ca, bs.map W.bl)]) (k := W.bl) (g := fun b => .str (sw b)) (f := fun x h => match store (.one 16) x (sg17 l0 base hs pa da ta ca ea c8 c10 c11 c12 c13) h with
      | some σ => ((evT (tx.cf (run tx d)) (.con (.bl true)) σ h).bind fun b h => match b with
        | true => (evE (tx.cf (run tx d)) (.sub (.lst (.of [.con (.str "idle"), .con (.str "done")])) (.bi .int (.of [.loc 16]))) σ h).bind fun y h => .ok (some y) h
        | false => .ok none h)
      | none => .st) (fun h' => Upd h h' cs cs) (fun h' u => stays_one (u.has.get hc)) (ys := bs) (h := h) (fun b m h1 u1 => by
        have nl : newL [W.str "idle", W.str "done"] h1 = .ok (.ref h1.n) (h1.push (.lst [.str "idle", .str "done"])) := newL_eq (by simp)
        refine ⟨h1.push (.lst [.str "idle", .str "done"]), ?_, u1.trans (Upd.push u1.has)⟩
        cases b with
        | true => 
          simp [sg17, nl, u_subR, ixn, sw]
        | false =>
          simp [sg17, nl, u_subR, ixn, sw]) (Upd.refl x)
  refine ⟨h', ?_, u⟩
  unfold laD
  rw [q_evE_comp]
  have lk : toLock (evL (tx.cf (run tx d)) (.val (.loc 6)) (sg17 l0 base hs pa da ta ca ea c8 c10 c11 c12 c13) h) = none := by simp [sg17, toLock_ref, g0]
  have pl : evI (tx.cf (run tx d)) (.val (.loc 6)) (sg17 l0 base hs pa da ta ca ea c8 c10 c11 c12 c13) h = .ok ⟨bs.map .bl, [(ca, bs.map .bl)]⟩ h := by simp [sg17, u_planR, u_planLR, g0]
  rw [lk]
  simp only [withLock_none, pl, R.bind_ok]
  refine Eq.trans (congrArg (fun r : R (List W) => r.bind fun ys h => newL ys h) e) ?_
  exact newL_eq (by rw [List.length_map]; unfold line; omega)
theorem ne_sws {a b : Nat} {bs : List Bool} (ln : bs.length ≤ 200) (ha : h.g a = some (.lst (bs.map fun b => .str (sw b)))) (hb : h.g b = some (.lst (bs.map fun b => .str (sw b)))) : cmpW .ne (.ref a) (.ref b) h = some false := by
  have q : dats 9999 h (bs.map fun b => W.str (sw b)) = some (bs.map fun b => .str (sw b)) := dats_map (c := 1) (fun u _ m lm => by
    obtain ⟨k, rfl⟩ : ∃ k, m = k + 1 := ⟨m - 1, by omega⟩
    rfl) (by omega)
  have s1 : (PyData.str (Str.ofString "done")).canLay0 = true := by decide +kernel
  have s0 : (PyData.str (Str.ofString "idle")).canLay0 = true := by decide +kernel
  show (eqW h (.ref a) (.ref b)).map _ = _
  rw [eq_same (n := 0) ha hb q q (shaped_listM fun b _ => ⟨by cases b; exact s0; exact s1, by simp [PyData.depth]⟩)]
  rfl
end
end T69
end
section
set_option Elab.async false
set_option linter.all false
set_option maxRecDepth 100000
set_option maxHeartbeats 4000000
namespace T69
open PySem L2 Mn
def le1 : Sm := .ite (.not (.call 307 (.of [.loc 4, .loc 2, .loc 5, .loc 6, .bin .fdiv (.loc 1) (.con (.int 32))]))) (.of [.ret (.con (.bl false))]) .nil
def le2 : Sm := .expr (.call 305 (.of [.loc 3, .loc 4]))
def le3 : Sm := .ite (.cmp .ne laE (.lst .nil)) (.of [.ret (.con (.bl false))]) .nil
def le4 : Sm := .ite (.cmp .ne laS laD) (.of [.ret (.con (.bl false))]) .nil
def le5 : Sm := .set (.one 9) (.and (.cmp .eq (.meth (.loc 4) 89 .nil) (.bi .len (.of [.loc 5]))) (.cmp .isn (.meth (.loc 4) 93 .nil) (.con (.bl true))))
def le6 : Sm := .ret (.and (.loc 9) (.call 308 (.of [.loc 4, .loc 2, .loc 5, .loc 6, .con (.bl true)])))
def leB : Sms := .of [le1, le2, le3, le4, le5, le6]
section
variable {d : Nat} {h : Hm} {D : DS}
theorem c_end {la : Nat} {cl : List Int} {l0 : Option W} {base : Int} {hs pa da ta ca ea : Nat} {σ : List (Option W)} {ms : List Msg} {us : List Str} {bs : List Bool} {es : List Ent} {EC : List (Nat × O)} (i : LInv la cl l0 base hs pa da ta ca ea 0 σ h D ms us bs es EC) :
    ∃ h', evSs (tx.cf (run tx (d + 12))) leB σ h = .rt (.bl true) h' := by
  obtain ⟨⟨c8, c10, c11, c12, c13, rfl⟩, x, f, v, t, eo, ln, z, rfl, rfl, rfl, el⟩ := i
  have lnn : line = 16777216 := rfl
  obtain ⟨y, ey⟩ : ∃ y : Int, y = base / 32 := ⟨_, rfl⟩
  have d32 : ∀ h2 : Hm, binW .fdiv (.int base) (.int 32) h2 = .ok (.int y) h2 := fun h2 => by rw [ey]; exact w_fdiv ⟨by decide, by decide⟩
  have x0 := x.right.tail.tail
  have us0 := unf_sizes t
  have hl : ∀ s, s ∈ D.str → s.w.ps.length ≤ 1501 := fun s m => by
    obtain ⟨k, mk⟩ := List.getElem?_of_mem m
    have lk : k < D.str.length := (List.getElem?_eq_some_iff.mp mk).1
    obtain ⟨u, mu⟩ : ∃ u, us[k]? = some u := ⟨_, List.getElem?_eq_getElem (by rw [t.lu]; exact lk)⟩
    obtain ⟨b, mb⟩ : ∃ b, bs[k]? = some b := ⟨_, List.getElem?_eq_getElem (by rw [t.lb]; exact lk)⟩
    have := (sz_at t mk mu mb).1
    omega
  obtain ⟨h1, D1, us1, bs1, e1, u1, v1, t1, s1, n1, z1⟩ := c_more (d := d + 6) (plan := y) x0 f v t (by rw [← t.lu]; exact ln) (by omega) (fun s m => by have := hl s m; omega) (by omega) (fun u m => by have := le_sizes m; omega)
  have U1 := Upd.lc u1 x
  have f1 := U1.free f
  obtain ⟨h2, D2, ms2, e2, u2, v2, s2, k2, uf⟩ := c_rest (d := d) U1.has.right.tail.tail.tail.tail f1 v1
  rw [s1.pa, s1.a] at e2
  have t2 := t1.of_key k2
  have U2 := Upd.lc ((u2.cons U1.has.right.tail.tail.tail).cons U1.has.right.tail.tail) U1.has
  have f2 := U2.free f1
  have s12 := s1.trans s2
  have hg2 : h2.g ea = some (.lst (es.map entW)) := U2.has.right.tail.get List.mem_cons_self
  have e3 := c_laE (d := d + 12) (l0 := l0) (base := base) (hs := D.p.hs) (pa := D.p.a) (da := D.a) (ta := ta) (ca := ca) (c8 := c8) (c10 := c10) (c11 := c11) (c12 := c12) (c13 := c13) U2.has hg2 eo (by omega)
  obtain ⟨h3, q3⟩ : ∃ h3, h3 = h2.push (.lst []) := ⟨_, rfl⟩
  rw [← q3] at e3
  have U3 : Upd h2 h3 (LC EC la cl ea es ta ca us1 bs1 D2) (LC EC la cl ea es ta ca us1 bs1 D2) := by rw [q3]; exact Upd.push U2.has
  obtain ⟨h4, q4⟩ : ∃ h4, h4 = h3.push (.lst []) := ⟨_, rfl⟩
  have nl : newL [] h3 = .ok (.ref h3.n) h4 := by rw [q4]; exact newL_eq (by simp)
  have U4 : Upd h3 h4 (LC EC la cl ea es ta ca us1 bs1 D2) (LC EC la cl ea es ta ca us1 bs1 D2) := by rw [q4]; exact Upd.push U3.has
  have c3 : cmpW .ne (.ref h2.n) (.ref h3.n) h4 = some false := ne_nils (by rw [q4, Hm.push_ne (by rw [q3]; simp), q3]; simp) (by rw [q4]; simp)
  have f4 := U4.free (U3.free f2)
  have x4 := U4.has.right.tail.tail
  have e5 := c_laS (d := d + 8) (cs := []) (l0 := l0) (base := base) (hs := D.p.hs) (pa := D.p.a) (ca := ca) (ea := ea) (c8 := c8) (c10 := c10) (c11 := c11) (c12 := c12) (c13 := c13) x4.tail.tail.desk v2.com t2 uf (x4.get List.mem_cons_self)
  rw [s12.a] at e5
  obtain ⟨h5, q5⟩ : ∃ h5, h5 = h4.push (.lst (bs1.map fun b => .str (sw b))) := ⟨_, rfl⟩
  rw [← q5] at e5
  have U5 : Upd h4 h5 (LC EC la cl ea es ta ca us1 bs1 D2) ((h4.n, .lst (bs1.map fun b => .str (sw b))) :: LC EC la cl ea es ta ca us1 bs1 D2) := by rw [q5]; exact Upd.add U4.has
  have f5 := U5.free f4
  have lb1 : bs1.length ≤ 200 := by
    have := t1.lb
    omega
  obtain ⟨h6, e6, U6⟩ := c_laD (d := d + 12) (bs := bs1) (ca := ca) (l0 := l0) (base := base) (hs := D.p.hs) (pa := D.p.a) (da := D.a) (ta := ta) (ea := ea) (c8 := c8) (c10 := c10) (c11 := c11) (c12 := c12) (c13 := c13) f5 U5.has (List.mem_cons_of_mem _ (List.mem_append_right _ (List.mem_cons_of_mem _ (List.mem_cons_of_mem _ (List.mem_cons_of_mem _ List.mem_cons_self))))) lb1
  obtain ⟨h7, q7⟩ : ∃ h7, h7 = h6.push (.lst (bs1.map fun b => .str (sw b))) := ⟨_, rfl⟩
  rw [← q7] at e6
  have U7 : Upd h6 h7 ((h4.n, .lst (bs1.map fun b => .str (sw b))) :: LC EC la cl ea es ta ca us1 bs1 D2) ((h4.n, .lst (bs1.map fun b => .str (sw b))) :: LC EC la cl ea es ta ca us1 bs1 D2) := by rw [q7]; exact Upd.push U6.has
  have c7 : cmpW .ne (.ref h4.n) (.ref h6.n) h7 = some false := ne_sws lb1 (U7.has.get List.mem_cons_self) (by rw [q7]; simp)
  have f7 := U7.free (U6.free f5)
  have x7 := U7.has.tail.right.tail.tail
  have xd7 := x7.tail.tail.desk
  have e8 : run tx (d + 12) 64 [.ref D2.a] h7 = .ok (.int (D2.unf + D2.str.length : Nat)) h7 := c_unfinished xd7 f7.lk (kns v2) (by have := v2.com.n; omega)
  have e9 : run tx (d + 12) 65 [.ref D2.a] h7 = .ok (.bl (decide (D2.unf = 0))) h7 := c_is_idle xd7 f7.lk (kns v2) (by have := v2.com.n; omega)
  rw [uf] at e8 e9
  have e10 := c_read_right (d := d + 7) xd7 f7.lk v2 t2 (fun u m => by
    have := le_sizes m
    show u.cps.size ≤ line
    omega) (x7.get List.mem_cons_self) (x7.get (List.mem_cons_of_mem _ List.mem_cons_self)) (x7.lt List.mem_cons_self) (x7.lt (List.mem_cons_of_mem _ List.mem_cons_self)) (last := true) (fun _ => uf)
  rw [s12.a] at e8 e9 e10
  rw [s12.hs] at e10
  have xa7 := xd7.a
  rw [s12.a] at xa7
  have gt7 : h7.g ta = some (.lst (us1.map .str)) := x7.get List.mem_cons_self
  have lus : ((0 + D2.str.length : Nat) : Int) = us1.length := by rw [t2.lu]; omega
  rw [lus] at e8
  refine ⟨h7, ?_⟩
  have b1 : evS (tx.cf (run tx (d + 12))) le1 (sg17 l0 base D.p.hs D.p.a D.a ta ca ea c8 c10 c11 c12 c13) h = .nx (sg17 l0 base D.p.hs D.p.a D.a ta ca ea c8 c10 c11 c12 c13) h1 := by
    obtain ⟨C, qC⟩ : ∃ C, C = run tx (d + 12) := ⟨_, rfl⟩
    have e1 : C 307 [.ref D.a, .int D.p.hs, .ref ta, .ref ca, .int y] h = .ok (.bl true) h1 := by rw [qC]; exact e1
    rw [← qC]
    have c307 : (tx.cf C).has 307 = true := rfl
    simp [le1, sg17, d32, c307, e1]
  have b2 : evS (tx.cf (run tx (d + 12))) le2 (sg17 l0 base D.p.hs D.p.a D.a ta ca ea c8 c10 c11 c12 c13) h1 = .nx (sg17 l0 base D.p.hs D.p.a D.a ta ca ea c8 c10 c11 c12 c13) h2 := by
    obtain ⟨C, qC⟩ : ∃ C, C = run tx (d + 12) := ⟨_, rfl⟩
    rw [← qC] at e2 ⊢
    have c305 : (tx.cf C).has 305 = true := rfl
    simp [le2, sg17, c305, e2]
  have b3 : evS (tx.cf (run tx (d + 12))) le3 (sg17 l0 base D.p.hs D.p.a D.a ta ca ea c8 c10 c11 c12 c13) h2 = .nx (sg17 l0 base D.p.hs D.p.a D.a ta ca ea c8 c10 c11 c12 c13) h4 := by
    simp [le3, e3, nl, c3]
  have b4 : evS (tx.cf (run tx (d + 12))) le4 (sg17 l0 base D.p.hs D.p.a D.a ta ca ea c8 c10 c11 c12 c13) h4 = .nx (sg17 l0 base D.p.hs D.p.a D.a ta ca ea c8 c10 c11 c12 c13) h7 := by
    have e5 : evE (tx.cf (run tx (d + 12))) laS (sg17 l0 base D.p.hs D.p.a D.a ta ca ea c8 c10 c11 c12 c13) h4 = .ok (.ref h4.n) h5 := e5
    simp [le4, e5, e6, c7]
  have isn : cmpW .isn (.bl true) (.bl true) h7 = some true := rfl
  have b5 : evS (tx.cf (run tx (d + 12))) le5 (sg17 l0 base D.p.hs D.p.a D.a ta ca ea c8 c10 c11 c12 c13) h7 = .nx ((sg17 l0 base D.p.hs D.p.a D.a ta ca ea c8 c10 c11 c12 c13).set 9 (some (.bl true))) h7 := by
    obtain ⟨C, qC⟩ : ∃ C, C = run tx (d + 12) := ⟨_, rfl⟩
    rw [← qC] at e8 e9 ⊢
    simp [le5, sg17, xa7, e8, e9, isn, u_len, u_lenR, gt7]
  have b6 : evS (tx.cf (run tx (d + 12))) le6 ((sg17 l0 base D.p.hs D.p.a D.a ta ca ea c8 c10 c11 c12 c13).set 9 (some (.bl true))) h7 = .rt (.bl true) h7 := by
    obtain ⟨C, qC⟩ : ∃ C, C = run tx (d + 12) := ⟨_, rfl⟩
    have e10 : C 308 [.ref D.a, .int D.p.hs, .ref ta, .ref ca, .bl true] h7 = .ok (.bl true) h7 := by rw [qC]; exact e10
    rw [← qC]
    have c308 : (tx.cf C).has 308 = true := rfl
    simp [le6, sg17, c308, e10]
  simp only [leB, Sms.of_cons, Sms.of_nil, evSs_cons, evSs_nil]
  rw [b1, F.seq_nx, b2, F.seq_nx, b3, F.seq_nx, b4, F.seq_nx, b5, F.seq_nx, b6, F.seq_rt]
end
end T69
end
section
set_option Elab.async false
set_option linter.all false
set_option maxRecDepth 100000
set_option maxHeartbeats 4000000
namespace T69
open PySem L2 Mn
section
variable {d : Nat} {h : Hm}
theorem c_cellk {xs : List Int} : run tx (d + 1) 300 [.klst (xs.map .int), .int 0] h = .ok (.int (xs.headD 0)) h := by
  refine run_pure_old f300 rfl rfl ?_ rfl
  have sk : ∀ (ys : List W) (i : Int) (h : Hm), Mn.sub (.klst ys) (.int i) h = (ixn ys.length i).bind fun j => ys[j]? := fun _ _ _ => rfl
  cases xs with
  | nil => simp [F__law_cell_at, b__law_cell_at, startW]
  | cons x xs => simp [F__law_cell_at, b__law_cell_at, startW, sk, ixn]
def ls1 : Sm := .set (.one 1) (.call 300 (.of [.loc 0, .con (.int 0)]))
def ls2 : Sm := .set (.one 2) (.bin .mod (.loc 1) (.con (.int 32)))
def ls3 : Sm := .set (.one 3) (.make 11 (.of [.loc 2, .lst .nil]))
def ls4 : Sm := .set (.one 4) (.make 6 (.of [.loc 3]))
def ls5 : Sm := .set (.one 5) (.lst .nil)
def ls6 : Sm := .set (.one 6) (.lst .nil)
def ls7 : Sm := .set (.one 7) (.lst .nil)
def ls8 : Sm := .for (.one 8) (.val laI) lwB
theorem law_body2 : b_law = .of [ls1, ls2, ls3, ls4, ls5, ls6, ls7, ls8, le1, le2, le3, le4, le5, le6] := rfl
theorem c_start {xs : List Int} (f : Free h) :
    ∃ h' D base ta ca ea, (∀ r : Sms, evSs (tx.cf (run tx (d + 3))) (.cons ls1 (.cons ls2 (.cons ls3 (.cons ls4 (.cons ls5 (.cons ls6 (.cons ls7 r))))))) (startW 17 [.klst (xs.map .int)]) h = evSs (tx.cf (run tx (d + 3))) r (sg17 (some (.klst (xs.map .int))) base D.p.hs D.p.a D.a ta ca ea none none none none none) h') ∧ Has h' ((ea, .lst []) :: lcells ta ca [] [] D) ∧ Free h' ∧ InvB D [] ∧ TX D [] [] := by
  obtain ⟨base, eb⟩ : ∃ b : Int, b = xs.headD 0 := ⟨_, rfl⟩
  have b1 := Int.emod_nonneg base (b := 32) (by decide)
  have b2 := Int.emod_lt_of_pos base (b := 32) (by decide)
  obtain ⟨hs, ehs⟩ : ∃ n : Nat, base % 32 = n := ⟨(base % 32).toNat, by omega⟩
  have lh : hs < 32 := by omega
  obtain ⟨h1, q1⟩ : ∃ h1, h1 = h.push (.lst []) := ⟨_, rfl⟩
  have f1 : Free h1 := by rw [q1]; exact ⟨f.lo, f.lk⟩
  have n1 : h1.n = h.n + 1 := by rw [q1]; rfl
  have nl1 : newL [] h = .ok (.ref h.n) h1 := by rw [q1]; exact newL_eq (by simp)
  have e3 := c_post0 (T := tx) (d := d) (h := h1) (hs := hs) (wl := h.n) f1 lh (by rw [q1]; simp) (by omega)
  have x2 := has_post0 (h := h1) (hs := hs) (o1 := .dK [(.inl (hs : Int), .bl true)]) (o2 := .lst []) (o3 := .lst []) (o4 := .lst []) (o5 := .lst [])
  obtain ⟨h2, q2⟩ : ∃ h2, h2 = (((((((((((h1.push (oPost (post0 h1.n hs))).push (.dK [(.inl (hs : Int), .bl true)])).push (.lst [])).push (.lst [])).push (.ins 1 [(5, .ref (h1.n + 5))])).push (.dK [(.inl (hs : Int), news1 hs 0 [])])).push (.lst [])).push (.lst [])).push (.lst [])).push (.lst [])).push (.lst [])) := ⟨_, rfl⟩
  rw [← q2] at e3 x2
  have f2 : Free h2 := by rw [q2]; exact ⟨f1.lo, f1.lk⟩
  have e4 := c_desk0 (T := tx) (d := d + 1) (p := post0 h1.n hs) f2
  have x3 := has_desk0 (o1 := .ins 3 [(11, .ref (h2.n + 2))]) (o2 := .dK []) x2
  obtain ⟨h3, q3⟩ : ∃ h3, h3 = (((((((((h2.push (oD (desk0 h2.n (post0 h1.n hs)))).push (.ins 3 [(11, .ref (h2.n + 2))])).push (.dK [])).push (.lst [])).push (.dT [])).push (.dT [])).push (.lst [])).push (.dT [])).push (.lst [])) := ⟨_, rfl⟩
  rw [← q3] at e4 x3
  have f3 : Free h3 := by rw [q3]; exact ⟨f2.lo, f2.lk⟩
  obtain ⟨h4, q4⟩ : ∃ h4, h4 = h3.push (.lst []) := ⟨_, rfl⟩
  obtain ⟨h5, q5⟩ : ∃ h5, h5 = h4.push (.lst []) := ⟨_, rfl⟩
  obtain ⟨h6, q6⟩ : ∃ h6, h6 = h5.push (.lst []) := ⟨_, rfl⟩
  have nl4 : newL [] h3 = .ok (.ref h3.n) h4 := by rw [q4]; exact newL_eq (by simp)
  have nl5 : newL [] h4 = .ok (.ref h4.n) h5 := by rw [q5]; exact newL_eq (by simp)
  have nl6 : newL [] h5 = .ok (.ref h5.n) h6 := by rw [q6]; exact newL_eq (by simp)
  have u4 : Upd h3 h4 (desk0 h2.n (post0 h1.n hs)).cells ((h3.n, .lst []) :: (desk0 h2.n (post0 h1.n hs)).cells) := by rw [q4]; exact Upd.add x3
  have u5 : Upd h4 h5 ((h3.n, .lst []) :: (desk0 h2.n (post0 h1.n hs)).cells) ((h4.n, .lst []) :: (h3.n, .lst []) :: (desk0 h2.n (post0 h1.n hs)).cells) := by rw [q5]; exact Upd.add u4.has
  have u6 : Upd h5 h6 ((h4.n, .lst []) :: (h3.n, .lst []) :: (desk0 h2.n (post0 h1.n hs)).cells) ((h5.n, .lst []) :: (h4.n, .lst []) :: (h3.n, .lst []) :: (desk0 h2.n (post0 h1.n hs)).cells) := by rw [q6]; exact Upd.add u5.has
  have f6 := u6.free (u5.free (u4.free f3))
  obtain ⟨v, t, _⟩ := inv0 (n := h2.n) (m := h1.n) lh
  refine ⟨h6, desk0 h2.n (post0 h1.n hs), base, h3.n, h4.n, h5.n, fun r => ?_, ?_, f6, v, t⟩
  · have m32 : ∀ h9 : Hm, binW .mod (.int base) (.int 32) h9 = .ok (.int hs) h9 := fun h9 => by
      rw [w_mod (by decide), ehs]
    have e1 : run tx (d + 3) 300 [.klst (xs.map .int), .int 0] h = .ok (.int base) h := by rw [eb]; exact c_cellk (d := d + 2)
    obtain ⟨C, qC⟩ : ∃ C, C = run tx (d + 3) := ⟨_, rfl⟩
    rw [← qC] at e1 e3
    have e4 : C 52 [.ref h2.n, .ref (post0 h1.n hs).a] (h2.push (.ins 6 [])) = .ok .non h3 := by rw [qC]; exact e4
    rw [← qC]
    have c300 : (tx.cf C).has 300 = true := rfl
    have pa : (post0 h1.n hs).a = h1.n := rfl
    rw [pa] at e4
    simp [ls1, ls2, ls3, ls4, ls5, ls6, ls7, startW, c300, e1, m32, nl1, e3, e4, nl4, nl5, nl6]
    rfl
  · refine u6.has.perm (List.Perm.cons _ ?_)
    exact List.Perm.swap _ _ _
theorem c_laI {xs : List Int} {l : List (Option W)} {cs : List (Nat × O)} (x : Has h cs) (hx : xs.length ≤ 63) :
    ∃ (h' : Hm) (la : Nat) (ys : List Int), evE (tx.cf (run tx d)) laI (some (.klst (xs.map .int)) :: l) h = .ok (.ref la) h' ∧ Upd h h' cs ((la, .lst (ys.map W.int)) :: cs) ∧ ys.length ≤ 41 := by
  obtain ⟨h1, q1⟩ : ∃ h1, h1 = h.push (.lst [.int 0]) := ⟨_, rfl⟩
  obtain ⟨zs, qz⟩ : ∃ zs : List Int, zs = (xs.drop 1).take 40 := ⟨_, rfl⟩
  have cz : cut (xs.map W.int) (some 1) (some 41) = zs.map W.int := by
    unfold cut cutIx
    rw [qz]
    simp only [List.length_map]
    have a1 : ((if (1 : Int) < 0 then max (1 + (xs.length : Int)) 0 else min 1 (xs.length : Int))).toNat = min 1 xs.length := by
      rw [if_neg (by decide)]
      omega
    have a2 : ((if (41 : Int) < 0 then max (41 + (xs.length : Int)) 0 else min 41 (xs.length : Int))).toNat = min 41 xs.length := by
      rw [if_neg (by decide)]
      omega
    rw [a1, a2, ← List.map_drop, ← List.map_take]
    congr 1
    cases xs with
    | nil => rfl
    | cons y ys =>
      have : min 1 (y :: ys).length = 1 := by simp
      rw [this]
      by_cases q : (y :: ys).length ≤ 41
      · rw [Nat.min_eq_right q, List.take_of_length_le (by simp), List.take_of_length_le (by simp at *; omega)]
      · rw [Nat.min_eq_left (by omega)]
  obtain ⟨h2, q2⟩ : ∃ h2, h2 = h1.push (.lst (zs.map .int)) := ⟨_, rfl⟩
  have lz : zs.length ≤ 40 := by
    rw [qz, List.length_take]
    omega
  have u1 : Upd h h1 cs cs := by rw [q1]; exact Upd.push x
  have u2 : Upd h1 h2 cs cs := by rw [q2]; exact Upd.push u1.has
  have u3 : Upd h2 (h2.push (.lst (((0 : Int) :: zs).map W.int))) cs ((h2.n, .lst (((0 : Int) :: zs).map W.int)) :: cs) := Upd.add u2.has
  refine ⟨_, h2.n, 0 :: zs, ?_, (u1.trans u2).trans u3, by simp; omega⟩
  have nl : newL [W.int 0] h = .ok (.ref h.n) h1 := by rw [q1]; exact newL_eq (by simp)
  have cv : cutV' (.klst (xs.map W.int)) (some 1) (some 41) h1 = .ok (.ref h1.n) h2 := by
    show new (.lst (cut (xs.map W.int) (some 1) (some 41))) h1 = _
    rw [cz, q2]
    rfl
  have g1 : h2.g h.n = some (.lst [.int 0]) := by rw [q2, Hm.push_ne (by rw [q1]; simp), q1]; simp
  have g2 : h2.g h1.n = some (.lst (zs.map .int)) := by rw [q2]; simp
  have nl2 : newL (W.int 0 :: zs.map W.int) h2 = .ok (.ref h2.n) (h2.push (.lst (W.int 0 :: zs.map W.int))) := newL_eq (by simp; unfold line; omega)
  simp [laI, nl, cutB, cv, u_catR, g1, g2, nl2]
theorem lawRun0 (f : Free h) (xs : List Int) (hx : xs.length ≤ 63) : ∃ h', run tx (d + 13) 309 [.klst (xs.map .int)] h = .ok (.bl true) h' := by
  obtain ⟨h1, D, base, ta, ca, ea, e1, x1, f1, v, t⟩ := c_start (d := d + 9) (h := h) (xs := xs) f
  obtain ⟨h2, la, ys, e2, u2, ly⟩ := c_laI (d := d + 12) (xs := xs) (l := [some (.int base), some (.int D.p.hs), some (.ref D.p.a), some (.ref D.a), some (.ref ta), some (.ref ca), some (.ref ea), none, none, none, none, none, none, none, none, none]) x1 hx
  have f2 := u2.free f1
  have i0 : LInv la ys (some (.klst (xs.map .int))) base D.p.hs D.p.a D.a ta ca ea ys.length (sg17 (some (.klst (xs.map .int))) base D.p.hs D.p.a D.a ta ca ea none none none none none) h2 D [] [] [] [] [] :=
    ⟨⟨none, none, none, none, none, rfl⟩, u2.has, f2, v, t, fun e m => (by cases m), by simp, by simp [sizes]; omega, rfl, rfl, rfl, by simp; omega⟩
  obtain ⟨σ3, h3, D3, ms3, us3, bs3, es3, EC3, e3, i3⟩ := c_loop (d := d + 1) i0
  obtain ⟨h4, e4⟩ := c_end (d := d) i3
  refine ⟨h4, ?_⟩
  rw [run_fn f309 rfl rfl]
  simp only [F_law, law_body2, Sms.of_cons, Sms.of_nil]
  rw [e1]
  have g2 : h2.g la = some (.lst (ys.map W.int)) := u2.has.get List.mem_cons_self
  have e5 : evS (tx.cf (run tx (d + 12))) ls8 (sg17 (some (.klst (xs.map .int))) base D.p.hs D.p.a D.a ta ca ea none none none none none) h1 = .nx σ3 h3 := by
    rw [show ls8 = .for (.one 8) (.val laI) lwB from rfl, evS_for]
    have e2' : evE (tx.cf (run tx (d + 12))) laI (sg17 (some (.klst (xs.map .int))) base D.p.hs D.p.a D.a ta ca ea none none none none none) h1 = .ok (.ref la) h2 := e2
    have g1 : toLock (evL (tx.cf (run tx (d + 12))) (.val laI) (sg17 (some (.klst (xs.map .int))) base D.p.hs D.p.a D.a ta ca ea none none none none none) h1) = none := by
      rw [q_evL_val, e2', toLock_ref, g2]
      rfl
    rw [g1]
    simp only [withLock_none, q_evI_val, e2', R.bind_ok, plan_lst g2, R.fl_ok]
    exact e3
  rw [evSs_cons, e5, F.seq_nx]
  simp only [leB, Sms.of_cons, Sms.of_nil] at e4
  rw [e4]
  rfl
end
end T69
end
section
set_option Elab.async false
set_option linter.all false
set_option maxRecDepth 100000
set_option maxHeartbeats 8000000
open PySem PySem.W PySem.Calls PyProof.Rows Mn
namespace T69
theorem ckd : ckDefs src.tb src.ds src.T.fns = true := by decide +kernel
theorem fits : src.fit = true := by decide +kernel
theorem lawRun (xs : List Int) (hx : xs.length ≤ 63) : ∃ h', src.law 40 309 xs = .ok (.bl true) h' := lawRun0 (d := 27) ⟨rfl, rfl⟩ xs hx
end T69
theorem PySem.Challenge.cw_stormpost_k69_streams_to_oneself_holds : PySem.Challenge.rw_stormpost_k69_streams_to_oneself.Holds := by
  w_on; o_law
  refine HandSHeadRun.head_any (r := OpenLaw.row PySem.Challenge.rw_stormpost_k69_streams_to_oneself) (q := T69.qv) (H := T69.hk) (ob := T69.ob) (M := 20000) (loose := T69.names) (d := HandSHeadRun.topDef (OpenLaw.row PySem.Challenge.rw_stormpost_k69_streams_to_oneself).prog 143) (kwd := []) T69.ob_eq
    (by kernel_rfl) (fun s => by kernel_rfl) T69.hrun (by kernel_rfl) (by kernel_rfl) (by kernel_rfl) (by rfl) (by first | assumption | decide +kernel) (by decide +kernel) ⟨rfl, rfl, rfl, rfl, rfl, by decide +kernel⟩ ?hw ?hc
  case hw => w_witness2
  case hc =>
    exact walk_end (n := 63) T69.src 40 309 _ rfl (by decide) (by kernel_rfl) ⟨rfl, by decide, by decide⟩ T69.ckd T69.fits rfl (by kernel_rfl) (by kernel_rfl) (by kernel_rfl) T69.lawRun
end
