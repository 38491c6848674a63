/- The seat's functions in the machine's language; no conditions. -/
import Derived.Test.YtanjldhhcnfibaaDoorMc
set_option linter.unusedSectionVars false
set_option linter.unusedVariables false
set_option maxRecDepth 100000
namespace M
open Go
-- 3 loop.example/g00239/laws.FnExactRecText params ['3', '9'] modes [None, None]
def l_FnExactRecText_b : A := (.seq (.pk [0, 1] (.ops [⟨none, .asg 4 .as_ (.k (.bool false))⟩])) (.seq (.seq (.pk [0, 1, 9] (.ops [⟨none, .mv 7 (.t 1)⟩, ⟨none, .slen 8 (.t 7)⟩, ⟨none, .bin 9 .gtr (.t 8) (.k (.int .i64 1048576))⟩])) (.pk [0, 1] (.cond (.t 9) (.seq (.pk [4] (.ops [⟨none, .asg 4 .as_ (.k (.bool true))⟩])) .ret) .skip))) (.seq (.pk [0, 1, 5] (.ops [⟨none, .mv 10 (.t 0)⟩, ⟨none, .mv 11 (.t 1)⟩, ⟨none, .call (some 12) 4 [((.t 10), .bor), ((.t 11), .bor)]⟩, ⟨none, .asg 5 .as_ (.t 12)⟩])) (.seq (.pk [5, 6] (.ops [⟨none, .mv 13 (.t 0)⟩, ⟨none, .mv 14 (.t 1)⟩, ⟨none, .call (some 15) 5 [((.t 13), .bor), ((.t 14), .bor)]⟩, ⟨none, .asg 6 .as_ (.t 15)⟩])) (.seq (.seq (.pk [18] (.ops [⟨none, .mv 16 (.t 6)⟩, ⟨none, .mv 17 (.t 5)⟩, ⟨none, .bin 18 .neq (.t 16) (.t 17)⟩])) (.pk [] (.cond (.t 18) (.seq (.pk [4] (.ops [⟨none, .asg 4 .as_ (.k (.bool false))⟩])) .ret) .skip))) (.seq (.pk [4] (.ops [⟨none, .asg 4 .as_ (.k (.bool true))⟩])) .ret))))))

-- 4 loop.example/g00239/spec.RecText params ['3', '9'] modes [None, None]
def s_RecText_b : A := (.seq (.pk [0, 1] (.ops [⟨none, .asg 4 .as_ (.k (.str ⟨#[]⟩))⟩])) (.seq (.seq (.pk [0, 1, 13] (.ops [⟨none, .mv 6 (.t 0)⟩, ⟨none, .call (some 7) 6 [((.t 6), .bor), ((.k (.int .i64 1)), .bor), ((.k (.int .i64 100000)), .bor)]⟩, ⟨none, .un 8 .not (.t 7)⟩, ⟨none, .mv 9 (.t 8)⟩, ⟨some (9, false), .mv 10 (.t 1)⟩, ⟨some (9, false), .slen 11 (.t 10)⟩, ⟨some (9, false), .bin 12 .gtr (.t 11) (.k (.int .i64 2000))⟩, ⟨none, .pick 13 (.t 9) (.k (.bool true)) (.t 12)⟩])) (.pk [0, 1] (.cond (.t 13) (.seq (.pk [4] (.ops [⟨none, .asg 4 .as_ (.k (.str ⟨#[]⟩))⟩])) .ret) .skip))) (.seq (.pk [5] (.ops [⟨none, .mv 14 (.t 0)⟩, ⟨none, .call (some 15) 7 [((.t 14), .bor)]⟩, ⟨none, .bin 16 .add (.t 15) (.k (.str ⟨#[32]⟩))⟩, ⟨none, .mv 17 (.t 1)⟩, ⟨none, .slen 18 (.t 17)⟩, ⟨none, .call (some 19) 7 [((.t 18), .bor)]⟩, ⟨none, .bin 20 .add (.t 16) (.t 19)⟩, ⟨none, .bin 21 .add (.t 20) (.k (.str ⟨#[10]⟩))⟩, ⟨none, .mv 22 (.t 1)⟩, ⟨none, .bin 23 .add (.t 21) (.t 22)⟩, ⟨none, .asg 5 .as_ (.t 23)⟩])) (.seq (.pk [4] (.ops [⟨none, .mv 24 (.t 5)⟩, ⟨none, .call (some 25) 8 [((.t 24), .bor)]⟩, ⟨none, .call (some 26) 7 [((.t 25), .bor)]⟩, ⟨none, .bin 27 .add (.t 26) (.k (.str ⟨#[32]⟩))⟩, ⟨none, .mv 28 (.t 5)⟩, ⟨none, .bin 29 .add (.t 27) (.t 28)⟩, ⟨none, .asg 4 .as_ (.t 29)⟩])) .ret))))

-- 5 loop.example/g00239/impl.RecText params ['3', '9'] modes [None, None]
def i_RecText_b : A := (.seq (.pk [0, 1] (.ops [⟨none, .asg 4 .as_ (.k (.str ⟨#[]⟩))⟩])) (.seq (.seq (.pk [0, 1, 13] (.ops [⟨none, .mv 6 (.t 0)⟩, ⟨none, .call (some 7) 9 [((.t 6), .bor), ((.k (.int .i64 1)), .bor), ((.k (.int .i64 100000)), .bor)]⟩, ⟨none, .un 8 .not (.t 7)⟩, ⟨none, .mv 9 (.t 8)⟩, ⟨some (9, false), .mv 10 (.t 1)⟩, ⟨some (9, false), .slen 11 (.t 10)⟩, ⟨some (9, false), .bin 12 .gtr (.t 11) (.k (.int .i64 2000))⟩, ⟨none, .pick 13 (.t 9) (.k (.bool true)) (.t 12)⟩])) (.pk [0, 1] (.cond (.t 13) (.seq (.pk [4] (.ops [⟨none, .asg 4 .as_ (.k (.str ⟨#[]⟩))⟩])) .ret) .skip))) (.seq (.pk [5] (.ops [⟨none, .mv 14 (.t 0)⟩, ⟨none, .call (some 15) 10 [((.t 14), .bor)]⟩, ⟨none, .bin 16 .add (.t 15) (.k (.str ⟨#[32]⟩))⟩, ⟨none, .mv 17 (.t 1)⟩, ⟨none, .slen 18 (.t 17)⟩, ⟨none, .call (some 19) 10 [((.t 18), .bor)]⟩, ⟨none, .bin 20 .add (.t 16) (.t 19)⟩, ⟨none, .bin 21 .add (.t 20) (.k (.str ⟨#[10]⟩))⟩, ⟨none, .mv 22 (.t 1)⟩, ⟨none, .bin 23 .add (.t 21) (.t 22)⟩, ⟨none, .asg 5 .as_ (.t 23)⟩])) (.seq (.pk [4] (.ops [⟨none, .mv 24 (.t 5)⟩, ⟨none, .call (some 25) 11 [((.t 24), .bor)]⟩, ⟨none, .call (some 26) 10 [((.t 25), .bor)]⟩, ⟨none, .bin 27 .add (.t 26) (.k (.str ⟨#[32]⟩))⟩, ⟨none, .mv 28 (.t 5)⟩, ⟨none, .bin 29 .add (.t 27) (.t 28)⟩, ⟨none, .asg 4 .as_ (.t 29)⟩])) .ret))))

-- 6 loop.example/g00239/spec.l1In params ['3', '3', '3'] modes [None, None, None]
def s_l1In_b : A := (.seq (.pk [0, 1, 2] (.ops [⟨none, .asg 6 .as_ (.k (.bool false))⟩])) (.seq (.pk [6] (.ops [⟨none, .mv 7 (.t 0)⟩, ⟨none, .mv 8 (.t 1)⟩, ⟨none, .bin 9 .geq (.t 7) (.t 8)⟩, ⟨none, .mv 10 (.t 9)⟩, ⟨some (10, true), .mv 11 (.t 0)⟩, ⟨some (10, true), .mv 12 (.t 2)⟩, ⟨some (10, true), .bin 13 .leq (.t 11) (.t 12)⟩, ⟨none, .pick 14 (.t 10) (.t 13) (.k (.bool false))⟩, ⟨none, .asg 6 .as_ (.t 14)⟩])) .ret))

-- 7 loop.example/g00239/spec.l13Digits params ['3'] modes [None]
def s_l13Digits_L0b : A := (.seq (.seq (.pk [0, 3, 7] (.ops [⟨none, .mv 6 (.t 0)⟩, ⟨none, .bin 7 .gtr (.t 6) (.k (.int .i64 0))⟩])) (.pk [0, 3] (.cond (.t 7) .skip (.exit 0)))) (.pk [0, 3] (.block 1 (.seq (.pk [0, 3] (.ops [⟨none, .mv 8 (.t 0)⟩, ⟨none, .bin 9 .rem (.t 8) (.k (.int .i64 10))⟩, ⟨none, .bin 10 .add (.k (.int .i64 48)) (.t 9)⟩, ⟨none, .conv 11 .u8 (.t 10)⟩, ⟨none, .lit 12 .mv 1 [(.t 11)]⟩, ⟨none, .text 13 (.t 12)⟩, ⟨none, .mv 14 (.t 3)⟩, ⟨none, .bin 15 .add (.t 13) (.t 14)⟩, ⟨none, .asg 3 .as_ (.t 15)⟩])) (.pk [0, 3] (.ops [⟨none, .mv 16 (.t 0)⟩, ⟨none, .bin 17 .quo (.t 16) (.k (.int .i64 10))⟩, ⟨none, .asg 0 .as_ (.t 17)⟩]))))))
def s_l13Digits_L0 : A := s_l13Digits_L0b
def s_l13Digits_b : A := (.seq (.pk [0] (.ops [⟨none, .asg 2 .as_ (.k (.str ⟨#[]⟩))⟩])) (.seq (.seq (.pk [0, 5] (.ops [⟨none, .mv 4 (.t 0)⟩, ⟨none, .bin 5 .eql (.t 4) (.k (.int .i64 0))⟩])) (.pk [0] (.cond (.t 5) (.seq (.pk [2] (.ops [⟨none, .asg 2 .as_ (.k (.str ⟨#[48]⟩))⟩])) .ret) .skip))) (.seq (.pk [0, 3] (.ops [⟨none, .asg 3 .as_ (.k (.str ⟨#[]⟩))⟩])) (.seq (.pk [3] (.block 0 (.loop s_l13Digits_L0))) (.seq (.pk [2] (.ops [⟨none, .mv 18 (.t 3)⟩, ⟨none, .asg 2 .as_ (.t 18)⟩])) .ret)))))

-- 8 loop.example/g00239/spec.Sum params ['9'] modes [None]
def s_Sum_L0b : A := (.seq (.seq (.pk [0, 3, 4, 5, 9] (.ops [⟨none, .mv 6 (.t 5)⟩, ⟨none, .mv 7 (.t 0)⟩, ⟨none, .slen 8 (.t 7)⟩, ⟨none, .bin 9 .lss (.t 6) (.t 8)⟩])) (.pk [0, 3, 4, 5] (.cond (.t 9) .skip (.exit 0)))) (.seq (.pk [0, 3, 4, 5] (.block 1 (.seq (.pk [0, 3, 4, 5] (.ops [⟨none, .mv 12 (.t 3)⟩, ⟨none, .mv 13 (.t 0)⟩, ⟨none, .mv 14 (.t 5)⟩, ⟨none, .sidx 15 (.t 13) (.t 14)⟩, ⟨none, .conv 16 .i64 (.t 15)⟩, ⟨none, .bin 17 .add (.t 12) (.t 16)⟩, ⟨none, .bin 18 .rem (.t 17) (.k (.int .i64 65521))⟩, ⟨none, .asg 3 .as_ (.t 18)⟩])) (.pk [0, 3, 4, 5] (.ops [⟨none, .mv 19 (.t 4)⟩, ⟨none, .mv 20 (.t 3)⟩, ⟨none, .bin 21 .add (.t 19) (.t 20)⟩, ⟨none, .bin 22 .rem (.t 21) (.k (.int .i64 65521))⟩, ⟨none, .asg 4 .as_ (.t 22)⟩]))))) (.pk [0, 3, 4, 5] (.ops [⟨none, .mv 10 (.t 5)⟩, ⟨none, .bin 11 .add (.t 10) (.k (.int .i64 1))⟩, ⟨none, .asg 5 .as_ (.t 11)⟩]))))
def s_Sum_L0 : A := s_Sum_L0b
def s_Sum_b : A := (.seq (.pk [0] (.ops [⟨none, .asg 2 .as_ (.k (.int .i64 0))⟩])) (.seq (.pk [0, 3, 4] (.ops [⟨none, .asg 3 .as_ (.k (.int .i64 1))⟩, ⟨none, .asg 4 .as_ (.k (.int .i64 0))⟩])) (.seq (.seq (.pk [0, 3, 4, 5] (.ops [⟨none, .asg 5 .as_ (.k (.int .i64 0))⟩])) (.pk [3, 4] (.block 0 (.loop s_Sum_L0)))) (.seq (.pk [2] (.ops [⟨none, .mv 23 (.t 4)⟩, ⟨none, .bin 24 .mul (.k (.int .i64 65521)) (.t 23)⟩, ⟨none, .mv 25 (.t 3)⟩, ⟨none, .bin 26 .add (.t 24) (.t 25)⟩, ⟨none, .asg 2 .as_ (.t 26)⟩])) .ret))))

-- 9 loop.example/g00239/impl.inRange params ['3', '3', '3'] modes [None, None, None]
def i_inRange_b : A := (.seq (.pk [0, 1, 2] (.ops [⟨none, .asg 6 .as_ (.k (.bool false))⟩])) (.seq (.pk [6] (.ops [⟨none, .mv 7 (.t 0)⟩, ⟨none, .mv 8 (.t 1)⟩, ⟨none, .bin 9 .geq (.t 7) (.t 8)⟩, ⟨none, .mv 10 (.t 9)⟩, ⟨some (10, true), .mv 11 (.t 0)⟩, ⟨some (10, true), .mv 12 (.t 2)⟩, ⟨some (10, true), .bin 13 .leq (.t 11) (.t 12)⟩, ⟨none, .pick 14 (.t 10) (.t 13) (.k (.bool false))⟩, ⟨none, .asg 6 .as_ (.t 14)⟩])) .ret))

-- 11 loop.example/g00239/impl.Sum params ['9'] modes [None]
def i_Sum_L0b : A := (.seq (.seq (.pk [0, 3, 4, 5, 9] (.ops [⟨none, .mv 6 (.t 5)⟩, ⟨none, .mv 7 (.t 0)⟩, ⟨none, .slen 8 (.t 7)⟩, ⟨none, .bin 9 .lss (.t 6) (.t 8)⟩])) (.pk [0, 3, 4, 5] (.cond (.t 9) .skip (.exit 0)))) (.seq (.pk [0, 3, 4, 5] (.block 1 (.seq (.pk [0, 3, 4, 5] (.ops [⟨none, .mv 12 (.t 3)⟩, ⟨none, .mv 13 (.t 0)⟩, ⟨none, .mv 14 (.t 5)⟩, ⟨none, .sidx 15 (.t 13) (.t 14)⟩, ⟨none, .conv 16 .i64 (.t 15)⟩, ⟨none, .bin 17 .add (.t 12) (.t 16)⟩, ⟨none, .bin 18 .rem (.t 17) (.k (.int .i64 65521))⟩, ⟨none, .asg 3 .as_ (.t 18)⟩])) (.pk [0, 3, 4, 5] (.ops [⟨none, .mv 19 (.t 4)⟩, ⟨none, .mv 20 (.t 3)⟩, ⟨none, .bin 21 .add (.t 19) (.t 20)⟩, ⟨none, .bin 22 .rem (.t 21) (.k (.int .i64 65521))⟩, ⟨none, .asg 4 .as_ (.t 22)⟩]))))) (.pk [0, 3, 4, 5] (.ops [⟨none, .mv 10 (.t 5)⟩, ⟨none, .bin 11 .add (.t 10) (.k (.int .i64 1))⟩, ⟨none, .asg 5 .as_ (.t 11)⟩]))))
def i_Sum_L0 : A := i_Sum_L0b
def i_Sum_b : A := (.seq (.pk [0] (.ops [⟨none, .asg 2 .as_ (.k (.int .i64 0))⟩])) (.seq (.pk [0, 3, 4] (.ops [⟨none, .asg 3 .as_ (.k (.int .i64 1))⟩, ⟨none, .asg 4 .as_ (.k (.int .i64 0))⟩])) (.seq (.seq (.pk [0, 3, 4, 5] (.ops [⟨none, .asg 5 .as_ (.k (.int .i64 0))⟩])) (.pk [3, 4] (.block 0 (.loop i_Sum_L0)))) (.seq (.pk [2] (.ops [⟨none, .mv 23 (.t 4)⟩, ⟨none, .bin 24 .mul (.k (.int .i64 65521)) (.t 23)⟩, ⟨none, .mv 25 (.t 3)⟩, ⟨none, .bin 26 .add (.t 24) (.t 25)⟩, ⟨none, .asg 2 .as_ (.t 26)⟩])) .ret))))

def TT : Tab := fun f => match f with
  | 3 => some ⟨l_FnExactRecText_b, [.t 4], 2⟩
  | 4 => some ⟨s_RecText_b, [.t 4], 2⟩
  | 5 => some ⟨i_RecText_b, [.t 4], 2⟩
  | 6 => some ⟨s_l1In_b, [.t 6], 3⟩
  | 7 => some ⟨s_l13Digits_b, [.t 2], 1⟩
  | 8 => some ⟨s_Sum_b, [.t 2], 1⟩
  | 9 => some ⟨i_inRange_b, [.t 6], 3⟩
  | 11 => some ⟨i_Sum_b, [.t 2], 1⟩
  | _ => none

end M
namespace M
open Go
/-- The library of this seat: strconv.Itoa. -/
def LI : Ora := pureO 10 itoaG
end M
